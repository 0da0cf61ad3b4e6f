/- A part of the proof of a statement of this seat: the machine on which the program is read, and what it computes; for every input. -/
import Derived.Test.YtaoeblefgefgpaaGreatDoorC10
import Derived.Test.YtaoeblefgefgpaaGreatDoorC07
set_option linter.all false
set_option linter.all false
namespace Go.Am.O
open Go Go.Am
set_option maxRecDepth 100000
set_option maxHeartbeats 8000000

/-- strobe/bench.FindMissing$1; results .tmp 4 -/
noncomputable def r39 : RC := (.seq (.ops [⟨some 2, none, none, false, .box 42 (.t 0)⟩,
  ⟨some 3, none, none, false, .box 42 (.t 1)⟩,
  ⟨some 4, none, none, false, .mov (.v (.int .i64 0))⟩]) (.seq (.drw 13 [⟨some 5, none, none, false, .fa 0 (.t 2)⟩,
  ⟨some 6, none, none, false, .ld1 (.t 5)⟩,
  ⟨some 7, none, none, false, .fa 0 (.t 3)⟩,
  ⟨some 8, none, none, false, .ld1 (.t 7)⟩,
  ⟨some 9, none, none, false, .call 41 [(.t 6), (.t 8)]⟩,
  ⟨some 10, none, none, false, .fa 1 (.t 2)⟩,
  ⟨some 11, none, none, false, .ld1 (.t 10)⟩,
  ⟨some 12, none, none, false, .fa 1 (.t 3)⟩,
  ⟨some 13, none, none, false, .ld1 (.t 12)⟩,
  ⟨some 14, none, none, false, .call 42 [(.t 11), (.t 13)]⟩,
  ⟨some 15, none, some 10, false, .bsl 3 1 2 [(.int .i64 0), (.int .i64 0)] [(0, 1, (.t 9)), (1, 1, (.t 14))]⟩,
  ⟨some 16, none, none, false, .call 40 [(.t 15)]⟩,
  ⟨some 4, none, none, false, .mov (.t 16)⟩]) .ret))
theorem k39 : fnRC 39 = some ([.tmp 4], r39) := by kernel_rfl

noncomputable def r40_l0 : RC := (.seq (.ops [⟨some 9, none, none, false, .bin .lss 3 false (.t 8) (.t 7)⟩]) (.seq (.cond (.t 9) .skip (.exit 0)) (.seq (.block 1 (.seq (.ops [⟨some 10, none, none, false, .ixa 1 (.t 6) (.t 8)⟩,
  ⟨some 11, none, none, false, .ld1 (.t 10)⟩,
  ⟨some 5, none, none, false, .mov (.t 11)⟩]) (.seq (.ops [⟨some 12, none, none, false, .mov (.t 5)⟩,
  ⟨some 13, none, none, false, .mov (.t 3)⟩,
  ⟨some 14, none, none, false, .bin .neq 3 false (.t 12) (.t 13)⟩]) (.cond (.t 14) (.seq (.ops [⟨some 15, none, none, false, .mov (.t 5)⟩,
  ⟨some 2, none, none, false, .mov (.t 15)⟩]) .ret) .skip)))) (.ops [⟨some 16, none, none, false, .bin .add 3 true (.t 8) (.v (.int .i64 1))⟩,
  ⟨some 8, none, none, false, .mov (.t 16)⟩]))))
/-- cmp.Or[int]; results .tmp 2 -/
noncomputable def r40 : RC := (.seq (.ops [⟨some 2, none, none, false, .mov (.v (.int .i64 0))⟩]) (.seq (.ops [⟨some 3, none, none, false, .mov (.v (.int .i64 0))⟩]) (.seq (.seq (.ops [⟨some 6, none, none, false, .mov (.t 0)⟩,
  ⟨some 7, none, none, false, .lenL (.t 6)⟩,
  ⟨some 8, none, none, false, .mov (.v (.int .i64 0))⟩]) (.block 0 (.loop r40_l0))) (.seq (.ops [⟨some 17, none, none, false, .mov (.t 3)⟩,
  ⟨some 2, none, none, false, .mov (.t 17)⟩]) .ret))))
theorem k40 : fnRC 40 = some ([.tmp 2], r40) := by kernel_rfl

/-- cmp.Compare[string]; results .tmp 4 -/
noncomputable def r41 : RC := (.seq (.ops [⟨some 4, none, none, false, .mov (.v (.int .i64 0))⟩]) (.seq (.ops [⟨some 7, none, none, false, .mov (.t 0)⟩,
  ⟨some 8, none, none, false, .call 96 [(.t 7)]⟩,
  ⟨some 5, none, none, false, .mov (.t 8)⟩]) (.seq (.ops [⟨some 9, none, none, false, .mov (.t 1)⟩,
  ⟨some 10, none, none, false, .call 96 [(.t 9)]⟩,
  ⟨some 6, none, none, false, .mov (.t 10)⟩]) (.seq (.seq (.ops [⟨some 11, none, none, false, .mov (.t 5)⟩]) (.cond (.t 11) (.seq (.seq (.ops [⟨some 12, none, none, false, .mov (.t 6)⟩]) (.cond (.t 12) (.seq (.ops [⟨some 4, none, none, false, .mov (.v (.int .i64 0))⟩]) .ret) .skip)) (.seq (.ops [⟨some 4, none, none, false, .mov (.v (.int .i64 (-1)))⟩]) .ret)) .skip)) (.seq (.seq (.ops [⟨some 13, none, none, false, .mov (.t 6)⟩]) (.cond (.t 13) (.seq (.ops [⟨some 4, none, none, false, .mov (.v (.int .i64 1))⟩]) .ret) .skip)) (.seq (.seq (.ops [⟨some 14, none, none, false, .mov (.t 0)⟩,
  ⟨some 15, none, none, false, .mov (.t 1)⟩,
  ⟨some 16, none, none, false, .bin .lss 9 false (.t 14) (.t 15)⟩]) (.cond (.t 16) (.seq (.ops [⟨some 4, none, none, false, .mov (.v (.int .i64 (-1)))⟩]) .ret) .skip)) (.seq (.seq (.ops [⟨some 17, none, none, false, .mov (.t 0)⟩,
  ⟨some 18, none, none, false, .mov (.t 1)⟩,
  ⟨some 19, none, none, false, .bin .gtr 9 false (.t 17) (.t 18)⟩]) (.cond (.t 19) (.seq (.ops [⟨some 4, none, none, false, .mov (.v (.int .i64 1))⟩]) .ret) .skip)) (.seq (.ops [⟨some 4, none, none, false, .mov (.v (.int .i64 0))⟩]) .ret))))))))
theorem k41 : fnRC 41 = some ([.tmp 4], r41) := by kernel_rfl

/-- cmp.Compare[int]; results .tmp 4 -/
noncomputable def r42 : RC := (.seq (.ops [⟨some 4, none, none, false, .mov (.v (.int .i64 0))⟩]) (.seq (.ops [⟨some 7, none, none, false, .mov (.t 0)⟩,
  ⟨some 8, none, none, false, .call 97 [(.t 7)]⟩,
  ⟨some 5, none, none, false, .mov (.t 8)⟩]) (.seq (.ops [⟨some 9, none, none, false, .mov (.t 1)⟩,
  ⟨some 10, none, none, false, .call 97 [(.t 9)]⟩,
  ⟨some 6, none, none, false, .mov (.t 10)⟩]) (.seq (.seq (.ops [⟨some 11, none, none, false, .mov (.t 5)⟩]) (.cond (.t 11) (.seq (.seq (.ops [⟨some 12, none, none, false, .mov (.t 6)⟩]) (.cond (.t 12) (.seq (.ops [⟨some 4, none, none, false, .mov (.v (.int .i64 0))⟩]) .ret) .skip)) (.seq (.ops [⟨some 4, none, none, false, .mov (.v (.int .i64 (-1)))⟩]) .ret)) .skip)) (.seq (.seq (.ops [⟨some 13, none, none, false, .mov (.t 6)⟩]) (.cond (.t 13) (.seq (.ops [⟨some 4, none, none, false, .mov (.v (.int .i64 1))⟩]) .ret) .skip)) (.seq (.seq (.ops [⟨some 14, none, none, false, .mov (.t 0)⟩,
  ⟨some 15, none, none, false, .mov (.t 1)⟩,
  ⟨some 16, none, none, false, .bin .lss 3 false (.t 14) (.t 15)⟩]) (.cond (.t 16) (.seq (.ops [⟨some 4, none, none, false, .mov (.v (.int .i64 (-1)))⟩]) .ret) .skip)) (.seq (.seq (.ops [⟨some 17, none, none, false, .mov (.t 0)⟩,
  ⟨some 18, none, none, false, .mov (.t 1)⟩,
  ⟨some 19, none, none, false, .bin .gtr 3 false (.t 17) (.t 18)⟩]) (.cond (.t 19) (.seq (.ops [⟨some 4, none, none, false, .mov (.v (.int .i64 1))⟩]) .ret) .skip)) (.seq (.ops [⟨some 4, none, none, false, .mov (.v (.int .i64 0))⟩]) .ret))))))))
theorem k42 : fnRC 42 = some ([.tmp 4], r42) := by kernel_rfl

/-- strobe/bench.collect$1; results .tmp 4 -/
noncomputable def r93 : RC := (.seq (.ops [⟨some 2, none, none, false, .box 42 (.t 0)⟩,
  ⟨some 3, none, none, false, .box 42 (.t 1)⟩,
  ⟨some 4, none, none, false, .mov (.v (.int .i64 0))⟩]) (.seq (.drw 18 [⟨some 5, none, none, false, .fa 2 (.t 2)⟩,
  ⟨some 6, none, none, false, .ld1 (.t 5)⟩,
  ⟨some 7, none, none, false, .fa 2 (.t 3)⟩,
  ⟨some 8, none, none, false, .ld1 (.t 7)⟩,
  ⟨some 9, none, none, false, .call 42 [(.t 6), (.t 8)]⟩,
  ⟨some 10, none, none, false, .fa 0 (.t 2)⟩,
  ⟨some 11, none, none, false, .ld1 (.t 10)⟩,
  ⟨some 12, none, none, false, .fa 0 (.t 3)⟩,
  ⟨some 13, none, none, false, .ld1 (.t 12)⟩,
  ⟨some 14, none, none, false, .call 41 [(.t 11), (.t 13)]⟩,
  ⟨some 15, none, none, false, .fa 1 (.t 2)⟩,
  ⟨some 16, none, none, false, .ld1 (.t 15)⟩,
  ⟨some 17, none, none, false, .fa 1 (.t 3)⟩,
  ⟨some 18, none, none, false, .ld1 (.t 17)⟩,
  ⟨some 19, none, none, false, .call 42 [(.t 16), (.t 18)]⟩,
  ⟨some 20, none, some 15, false, .bsl 3 1 3 [(.int .i64 0), (.int .i64 0), (.int .i64 0)] [(0, 1, (.t 9)), (1, 1, (.t 14)), (2, 1, (.t 19))]⟩,
  ⟨some 21, none, none, false, .call 40 [(.t 20)]⟩,
  ⟨some 4, none, none, false, .mov (.t 21)⟩]) .ret))
theorem k93 : fnRC 93 = some ([.tmp 4], r93) := by kernel_rfl

/-- cmp.isNaN[string]; results .tmp 2 -/
noncomputable def r96 : RC := (.seq (.ops [⟨some 2, none, none, false, .mov (.v (.bool false))⟩]) (.seq (.ops [⟨some 3, none, none, false, .mov (.t 0)⟩,
  ⟨some 4, none, none, false, .mov (.t 0)⟩,
  ⟨some 5, none, none, false, .bin .neq 9 false (.t 3) (.t 4)⟩,
  ⟨some 2, none, none, false, .mov (.t 5)⟩]) .ret))
theorem k96 : fnRC 96 = some ([.tmp 2], r96) := by kernel_rfl

/-- cmp.isNaN[int]; results .tmp 2 -/
noncomputable def r97 : RC := (.seq (.ops [⟨some 2, none, none, false, .mov (.v (.bool false))⟩]) (.seq (.ops [⟨some 3, none, none, false, .mov (.t 0)⟩,
  ⟨some 4, none, none, false, .mov (.t 0)⟩,
  ⟨some 5, none, none, false, .bin .neq 3 false (.t 3) (.t 4)⟩,
  ⟨some 2, none, none, false, .mov (.t 5)⟩]) .ret))
theorem k97 : fnRC 97 = some ([.tmp 2], r97) := by kernel_rfl


end Go.Am.O
