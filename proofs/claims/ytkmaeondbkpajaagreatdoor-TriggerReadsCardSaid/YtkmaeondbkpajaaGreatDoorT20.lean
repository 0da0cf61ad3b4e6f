/- A part of the proof of a statement of this seat: the machine on which the program is read, and what it computes; for every input. -/
import Derived.Test.YtkmaeondbkpajaaGreatDoorT05
import Derived.Test.YtkmaeondbkpajaaGreatDoorT16
import Derived.Test.YtkmaeondbkpajaaGreatDoorT17
import Derived.Test.YtkmaeondbkpajaaGreatDoorT18
import Derived.Test.YtkmaeondbkpajaaGreatDoorT19
set_option linter.all false
set_option linter.all false
namespace Go.Am
open Go
variable [MaxLen]
set_option maxRecDepth 100000
set_option maxHeartbeats 4000000
/-- strobe/strobelaw04.awake; results .tmp 0 -/
def r16 : RC := (.seq (.ops [⟨some 0, none, none, false, .mov (.v (.bool false))⟩]) (.seq (.ops [⟨some 36, none, none, false, .bld [(.str []), (.int .i64 0), (.int .i64 0), (.int .i64 0), (.int .i64 0), (.str []), .nils] [(0, 1, (.v (.str [114, 105, 115, 101])))]⟩,
  ⟨some 37, none, none, false, .call 37 [(.t 36)]⟩,
  ⟨some 38, none, none, false, .bld [(.str []), (.int .i64 0), (.int .i64 0), (.int .i64 0), (.int .i64 0), (.str []), .nils] [(0, 1, (.v (.str [104, 105, 103, 104])))]⟩,
  ⟨some 39, none, none, false, .call 37 [(.t 38)]⟩,
  ⟨some 1, none, none, false, .al [(.int .i64 0), .nils] 25⟩,
  ⟨some 2, none, none, false, .al [(.int .i64 0), .nils] 25⟩,
  ⟨none, none, none, false, .st 2 (.t 1) (.t 37)⟩,
  ⟨none, none, none, false, .st 2 (.t 2) (.t 39)⟩]) (.seq (.ops [⟨some 41, none, none, false, .ldn 2 (.t 1)⟩,
  ⟨some 42, none, none, false, .bsl 3 1 5 [(.int .i64 0), (.int .i64 0), (.int .i64 0), (.int .i64 0), (.int .i64 0)] [(0, 1, (.v (.int .i64 0))), (1, 1, (.v (.int .i64 1))), (2, 1, (.v (.int .i64 1))), (3, 1, (.v (.int .i64 0))), (4, 1, (.v (.int .i64 1)))]⟩,
  ⟨some 43, none, none, false, .call 18 [(.t 41), (.t 42)]⟩,
  ⟨some 40, none, none, false, .mov (.t 43)⟩,
  ⟨some 44, none, none, false, .ext (.t 40) 0⟩,
  ⟨some 45, none, none, false, .ext (.t 40) 1⟩,
  ⟨some 3, none, none, false, .mov (.t 44)⟩,
  ⟨some 4, none, none, false, .mov (.t 45)⟩]) (.seq (.ops [⟨some 47, none, none, false, .ldn 2 (.t 1)⟩,
  ⟨some 48, none, none, false, .call 16 [(.t 47)]⟩,
  ⟨some 46, none, none, false, .mov (.t 48)⟩,
  ⟨some 49, none, none, false, .ext (.t 46) 0⟩,
  ⟨some 50, none, none, false, .ext (.t 46) 1⟩,
  ⟨some 5, none, none, false, .al [(.int .i64 0), .nils, .nils] 42⟩,
  ⟨none, none, none, false, .st 3 (.t 5) (.t 49)⟩,
  ⟨some 6, none, none, false, .mov (.t 50)⟩]) (.seq (.ops [⟨some 52, none, none, false, .ldn 2 (.t 2)⟩,
  ⟨some 53, none, none, false, .call 16 [(.t 52)]⟩,
  ⟨some 51, none, none, false, .mov (.t 53)⟩,
  ⟨some 54, none, none, false, .ext (.t 51) 0⟩,
  ⟨some 55, none, none, false, .ext (.t 51) 1⟩,
  ⟨some 7, none, none, false, .al [(.int .i64 0), .nils, .nils] 42⟩,
  ⟨none, none, none, false, .st 3 (.t 7) (.t 54)⟩,
  ⟨some 8, none, none, false, .mov (.t 55)⟩]) (.seq (.ops [⟨some 57, none, none, false, .ldn 2 (.t 1)⟩,
  ⟨some 58, none, none, false, .call 38 [(.t 57)]⟩,
  ⟨some 56, none, none, false, .mov (.t 58)⟩,
  ⟨some 59, none, none, false, .ext (.t 56) 0⟩,
  ⟨some 60, none, none, false, .ext (.t 56) 1⟩,
  ⟨some 9, none, none, false, .mov (.t 59)⟩,
  ⟨some 10, none, none, false, .mov (.t 60)⟩]) (.seq (.ops [⟨some 61, none, none, false, .bsl 3 1 2 [(.int .i64 0), (.int .i64 0)] [(0, 1, (.v (.int .i64 1))), (1, 1, (.v (.int .i64 0)))]⟩,
  ⟨some 62, none, none, false, .bsl 3 1 2 [(.int .i64 0), (.int .i64 0)] [(0, 1, (.v (.int .i64 1))), (1, 1, (.v (.int .i64 0)))]⟩,
  ⟨some 63, none, none, false, .bsl 48 1 2 [.nils, .nils] [(0, 1, (.t 61)), (1, 1, (.t 62))]⟩,
  ⟨some 64, none, none, false, .bsl 4 1 2 [(.bool false), (.bool false)] [(0, 1, (.v (.bool false))), (1, 1, (.v (.bool false)))]⟩,
  ⟨some 65, none, none, false, .bsl 4 1 2 [(.bool false), (.bool false)] [(0, 1, (.v (.bool false))), (1, 1, (.v (.bool true)))]⟩,
  ⟨some 66, none, none, false, .bsl 72 1 2 [.nils, .nils] [(0, 1, (.t 64)), (1, 1, (.t 65))]⟩,
  ⟨some 67, none, none, false, .bld [(.int .i64 0), .nils, .nils] [(0, 1, (.v (.int .i64 1))), (1, 1, (.t 63)), (2, 1, (.t 66))]⟩,
  ⟨some 11, none, none, false, .al [(.int .i64 0), .nils, .nils] 46⟩,
  ⟨none, none, none, false, .st 3 (.t 11) (.t 67)⟩]) (.seq (.seq (.ops [⟨some 68, none, none, false, .mov (.t 4)⟩,
  ⟨some 69, none, none, false, .mov (.t 6)⟩,
  ⟨some 70, none, none, false, .bin .add 26 false (.t 68) (.t 69)⟩,
  ⟨some 71, none, none, false, .mov (.t 8)⟩,
  ⟨some 72, none, none, false, .bin .add 26 false (.t 70) (.t 71)⟩,
  ⟨some 73, none, none, false, .mov (.t 10)⟩,
  ⟨some 74, none, none, false, .bin .add 26 false (.t 72) (.t 73)⟩,
  ⟨some 75, none, none, false, .bin .neq 26 true (.t 74) (.v (.int .i64 0))⟩,
  ⟨some 76, none, none, false, .mov (.t 75)⟩,
  ⟨some 77, some (76, false), none, false, .mov (.t 3)⟩,
  ⟨some 78, some (76, false), none, false, .bsl 3 1 2 [(.int .i64 0), (.int .i64 0)] [(0, 1, (.v (.int .i64 1))), (1, 1, (.v (.int .i64 4)))]⟩,
  ⟨some 79, some (76, false), none, false, .call 32 [(.t 77), (.t 78)]⟩,
  ⟨some 80, some (76, false), none, false, .un .not (.t 79)⟩,
  ⟨some 81, none, none, false, .pick (.t 76) (.v (.bool true)) (.t 80)⟩,
  ⟨some 82, none, none, false, .mov (.t 81)⟩,
  ⟨some 83, some (82, false), none, false, .ldn 3 (.t 5)⟩,
  ⟨some 84, some (82, false), none, false, .ldn 3 (.t 11)⟩,
  ⟨some 85, some (82, false), none, false, .call 29 [(.t 83), (.t 84)]⟩,
  ⟨some 86, some (82, false), none, false, .un .not (.t 85)⟩,
  ⟨some 87, none, none, false, .pick (.t 82) (.v (.bool true)) (.t 86)⟩,
  ⟨some 88, none, none, false, .mov (.t 87)⟩,
  ⟨some 89, some (88, false), none, false, .mov (.t 9)⟩,
  ⟨some 90, some (88, false), none, false, .bin .neq 3 true (.t 89) (.v (.int .i64 3))⟩,
  ⟨some 91, none, none, false, .pick (.t 88) (.v (.bool true)) (.t 90)⟩]) (.cond (.t 91) (.seq (.ops [⟨some 0, none, none, false, .mov (.v (.bool false))⟩]) .ret) .skip)) (.seq (.ops [⟨some 93, none, none, false, .bld [(.str []), (.int .i64 0), (.int .i64 0), (.int .i64 0), (.int .i64 0), (.str []), .nils] [(0, 1, (.v (.str [112, 117, 108, 115, 101]))), (3, 1, (.v (.int .i64 2))), (4, 1, (.v (.int .i64 2)))]⟩,
  ⟨some 94, none, none, false, .bsl 3 1 6 [(.int .i64 0), (.int .i64 0), (.int .i64 0), (.int .i64 0), (.int .i64 0), (.int .i64 0)] [(0, 1, (.v (.int .i64 0))), (1, 1, (.v (.int .i64 1))), (2, 1, (.v (.int .i64 1))), (3, 1, (.v (.int .i64 0))), (4, 1, (.v (.int .i64 1))), (5, 1, (.v (.int .i64 0)))]⟩,
  ⟨some 95, none, none, false, .call 39 [(.v (.int .i64 1)), (.t 93), (.t 94)]⟩,
  ⟨some 92, none, none, false, .mov (.t 95)⟩,
  ⟨some 96, none, none, false, .ext (.t 92) 0⟩,
  ⟨some 97, none, none, false, .ext (.t 92) 1⟩,
  ⟨some 12, none, none, false, .mov (.t 96)⟩,
  ⟨some 13, none, none, false, .mov (.t 97)⟩]) (.seq (.ops [⟨some 99, none, none, false, .bld [(.str []), (.int .i64 0), (.int .i64 0), (.int .i64 0), (.int .i64 0), (.str []), .nils] [(0, 1, (.v (.str [114, 117, 110, 116]))), (2, 1, (.v (.int .i64 1)))]⟩,
  ⟨some 100, none, none, false, .bsl 3 1 4 [(.int .i64 0), (.int .i64 0), (.int .i64 0), (.int .i64 0)] [(0, 1, (.v (.int .i64 0))), (1, 1, (.v (.int .i64 1))), (2, 1, (.v (.int .i64 1))), (3, 1, (.v (.int .i64 0)))]⟩,
  ⟨some 101, none, none, false, .call 39 [(.v (.int .i64 2)), (.t 99), (.t 100)]⟩,
  ⟨some 98, none, none, false, .mov (.t 101)⟩,
  ⟨some 102, none, none, false, .ext (.t 98) 0⟩,
  ⟨some 103, none, none, false, .ext (.t 98) 1⟩,
  ⟨some 14, none, none, false, .mov (.t 102)⟩,
  ⟨some 15, none, none, false, .mov (.t 103)⟩]) (.seq (.ops [⟨some 105, none, none, false, .call 9 [(.v (.str [108, 105, 110, 101, 115, 32, 50, 59, 32, 114, 105, 115, 101, 32, 48, 59, 32, 114, 105, 115, 101, 32, 49, 32, 119, 105, 116, 104, 105, 110, 32, 50, 59]))]⟩,
  ⟨some 104, none, none, false, .mov (.t 105)⟩,
  ⟨some 106, none, none, false, .ext (.t 104) 0⟩,
  ⟨some 107, none, none, false, .ext (.t 104) 1⟩,
  ⟨some 108, none, none, false, .ext (.t 104) 2⟩,
  ⟨some 16, none, none, false, .al [(.int .i64 0), .nils] 25⟩,
  ⟨none, none, none, false, .st 2 (.t 16) (.t 106)⟩,
  ⟨some 17, none, none, false, .mov (.t 107)⟩,
  ⟨some 18, none, none, false, .mov (.t 108)⟩]) (.seq (.ops [⟨some 110, none, none, false, .ldn 2 (.t 16)⟩,
  ⟨some 111, none, none, false, .bsl 3 1 4 [(.int .i64 0), (.int .i64 0), (.int .i64 0), (.int .i64 0)] [(0, 1, (.v (.int .i64 0))), (1, 1, (.v (.int .i64 1))), (2, 1, (.v (.int .i64 1))), (3, 1, (.v (.int .i64 3)))]⟩,
  ⟨some 112, none, none, false, .call 18 [(.t 110), (.t 111)]⟩,
  ⟨some 109, none, none, false, .mov (.t 112)⟩,
  ⟨some 113, none, none, false, .ext (.t 109) 0⟩,
  ⟨some 114, none, none, false, .ext (.t 109) 1⟩,
  ⟨some 19, none, none, false, .mov (.t 113)⟩,
  ⟨some 20, none, none, false, .mov (.t 114)⟩]) (.seq (.ops [⟨some 116, none, none, false, .ldn 2 (.t 16)⟩,
  ⟨some 117, none, none, false, .bsl 3 1 5 [(.int .i64 0), (.int .i64 0), (.int .i64 0), (.int .i64 0), (.int .i64 0)] [(0, 1, (.v (.int .i64 0))), (1, 1, (.v (.int .i64 1))), (2, 1, (.v (.int .i64 1))), (3, 1, (.v (.int .i64 1))), (4, 1, (.v (.int .i64 3)))]⟩,
  ⟨some 118, none, none, false, .call 18 [(.t 116), (.t 117)]⟩,
  ⟨some 115, none, none, false, .mov (.t 118)⟩,
  ⟨some 119, none, none, false, .ext (.t 115) 0⟩,
  ⟨some 120, none, none, false, .ext (.t 115) 1⟩,
  ⟨some 21, none, none, false, .mov (.t 119)⟩,
  ⟨some 22, none, none, false, .mov (.t 120)⟩]) (.seq (.ops [⟨some 122, none, none, false, .ldn 3 (.t 5)⟩,
  ⟨some 123, none, none, false, .ldn 3 (.t 7)⟩,
  ⟨some 124, none, none, false, .call 27 [(.t 122), (.t 123)]⟩,
  ⟨some 121, none, none, false, .mov (.t 124)⟩,
  ⟨some 125, none, none, false, .ext (.t 121) 0⟩,
  ⟨some 126, none, none, false, .ext (.t 121) 1⟩,
  ⟨some 23, none, none, false, .mov (.t 125)⟩,
  ⟨some 24, none, none, false, .mov (.t 126)⟩]) (.seq (.ops [⟨some 128, none, none, false, .ldn 3 (.t 5)⟩,
  ⟨some 129, none, none, false, .call 40 [(.t 128)]⟩,
  ⟨some 127, none, none, false, .mov (.t 129)⟩,
  ⟨some 130, none, none, false, .ext (.t 127) 0⟩,
  ⟨some 131, none, none, false, .ext (.t 127) 1⟩,
  ⟨some 25, none, none, false, .mov (.t 130)⟩,
  ⟨some 26, none, none, false, .mov (.t 131)⟩]) (.seq (.ops [⟨some 133, none, none, false, .ldn 3 (.t 5)⟩,
  ⟨some 134, none, none, false, .call 41 [(.t 133)]⟩,
  ⟨some 132, none, none, false, .mov (.t 134)⟩,
  ⟨some 135, none, none, false, .ext (.t 132) 0⟩,
  ⟨some 136, none, none, false, .ext (.t 132) 1⟩,
  ⟨some 27, none, none, false, .mov (.t 135)⟩,
  ⟨some 28, none, none, false, .mov (.t 136)⟩]) (.seq (.ops [⟨some 138, none, none, false, .ldn 3 (.t 5)⟩,
  ⟨some 139, none, none, false, .ldn 3 (.t 7)⟩,
  ⟨some 140, none, none, false, .call 42 [(.t 138), (.t 139)]⟩,
  ⟨some 137, none, none, false, .mov (.t 140)⟩,
  ⟨some 141, none, none, false, .ext (.t 137) 0⟩,
  ⟨some 142, none, none, false, .ext (.t 137) 1⟩,
  ⟨some 29, none, none, false, .al [(.int .i64 0), .nils, .nils] 42⟩,
  ⟨none, none, none, false, .st 3 (.t 29) (.t 141)⟩,
  ⟨some 30, none, none, false, .mov (.t 142)⟩]) (.seq (.ops [⟨some 144, none, none, false, .ldn 3 (.t 5)⟩,
  ⟨some 145, none, none, false, .ldn 3 (.t 7)⟩,
  ⟨some 146, none, none, false, .call 43 [(.t 144), (.t 145)]⟩,
  ⟨some 143, none, none, false, .mov (.t 146)⟩,
  ⟨some 147, none, none, false, .ext (.t 143) 0⟩,
  ⟨some 148, none, none, false, .ext (.t 143) 1⟩,
  ⟨some 31, none, none, false, .al [(.int .i64 0), .nils, .nils] 42⟩,
  ⟨none, none, none, false, .st 3 (.t 31) (.t 147)⟩,
  ⟨some 32, none, none, false, .mov (.t 148)⟩]) (.seq (.ops [⟨some 150, none, none, false, .call 9 [(.v (.str [108, 105, 110, 101, 115, 32, 49, 59, 32, 114, 105, 122, 101, 32, 48, 59]))]⟩,
  ⟨some 149, none, none, false, .mov (.t 150)⟩,
  ⟨some 151, none, none, false, .ext (.t 149) 0⟩,
  ⟨some 152, none, none, false, .ext (.t 149) 1⟩,
  ⟨some 153, none, none, false, .ext (.t 149) 2⟩,
  ⟨some 33, none, none, false, .al [(.int .i64 0), .nils] 25⟩,
  ⟨none, none, none, false, .st 2 (.t 33) (.t 151)⟩,
  ⟨some 34, none, none, false, .mov (.t 152)⟩,
  ⟨some 35, none, none, false, .mov (.t 153)⟩]) (.seq (.ops [⟨some 154, none, none, false, .mov (.t 13)⟩,
  ⟨some 155, none, none, false, .mov (.t 15)⟩,
  ⟨some 156, none, none, false, .bin .add 26 false (.t 154) (.t 155)⟩,
  ⟨some 157, none, none, false, .mov (.t 18)⟩,
  ⟨some 158, none, none, false, .bin .add 26 false (.t 156) (.t 157)⟩,
  ⟨some 159, none, none, false, .mov (.t 20)⟩,
  ⟨some 160, none, none, false, .bin .add 26 false (.t 158) (.t 159)⟩,
  ⟨some 161, none, none, false, .mov (.t 22)⟩,
  ⟨some 162, none, none, false, .bin .add 26 false (.t 160) (.t 161)⟩,
  ⟨some 163, none, none, false, .mov (.t 24)⟩,
  ⟨some 164, none, none, false, .bin .add 26 false (.t 162) (.t 163)⟩,
  ⟨some 165, none, none, false, .mov (.t 26)⟩,
  ⟨some 166, none, none, false, .bin .add 26 false (.t 164) (.t 165)⟩,
  ⟨some 167, none, none, false, .mov (.t 28)⟩,
  ⟨some 168, none, none, false, .bin .add 26 false (.t 166) (.t 167)⟩,
  ⟨some 169, none, none, false, .mov (.t 30)⟩,
  ⟨some 170, none, none, false, .bin .add 26 false (.t 168) (.t 169)⟩,
  ⟨some 171, none, none, false, .mov (.t 32)⟩,
  ⟨some 172, none, none, false, .bin .add 26 false (.t 170) (.t 171)⟩,
  ⟨some 173, none, none, false, .bin .eql 26 true (.t 172) (.v (.int .i64 0))⟩,
  ⟨some 174, none, none, false, .mov (.t 173)⟩,
  ⟨some 175, some (174, true), none, false, .mov (.t 35)⟩,
  ⟨some 176, some (174, true), none, false, .bin .eql 26 true (.t 175) (.v (.int .i64 25))⟩,
  ⟨some 177, none, none, false, .pick (.t 174) (.t 176) (.v (.bool false))⟩,
  ⟨some 178, none, none, false, .mov (.t 177)⟩,
  ⟨some 179, some (178, true), none, false, .mov (.t 34)⟩,
  ⟨some 180, some (178, true), none, false, .bin .eql 3 true (.t 179) (.v (.int .i64 9))⟩,
  ⟨some 181, none, none, false, .pick (.t 178) (.t 180) (.v (.bool false))⟩,
  ⟨some 182, none, none, false, .mov (.t 181)⟩,
  ⟨some 183, some (182, true), none, false, .mov (.t 17)⟩,
  ⟨some 184, some (182, true), none, false, .bin .eql 3 true (.t 183) (.v (.int .i64 0))⟩,
  ⟨some 185, none, none, false, .pick (.t 182) (.t 184) (.v (.bool false))⟩,
  ⟨some 186, none, none, false, .mov (.t 185)⟩,
  ⟨some 187, some (186, true), none, false, .mov (.t 12)⟩,
  ⟨some 188, some (186, true), none, false, .bsl 4 1 6 [(.bool false), (.bool false), (.bool false), (.bool false), (.bool false), (.bool false)] [(0, 1, (.v (.bool false))), (1, 1, (.v (.bool false))), (2, 1, (.v (.bool false))), (3, 1, (.v (.bool true))), (4, 1, (.v (.bool false))), (5, 1, (.v (.bool false)))]⟩,
  ⟨some 189, some (186, true), none, false, .call 44 [(.t 187), (.t 188)]⟩,
  ⟨some 190, none, none, false, .pick (.t 186) (.t 189) (.v (.bool false))⟩,
  ⟨some 191, none, none, false, .mov (.t 190)⟩,
  ⟨some 192, some (191, true), none, false, .mov (.t 14)⟩,
  ⟨some 193, some (191, true), none, false, .bsl 4 1 4 [(.bool false), (.bool false), (.bool false), (.bool false)] [(0, 1, (.v (.bool false))), (1, 1, (.v (.bool false))), (2, 1, (.v (.bool false))), (3, 1, (.v (.bool true)))]⟩,
  ⟨some 194, some (191, true), none, false, .call 44 [(.t 192), (.t 193)]⟩,
  ⟨some 195, none, none, false, .pick (.t 191) (.t 194) (.v (.bool false))⟩,
  ⟨some 196, none, none, false, .mov (.t 195)⟩,
  ⟨some 197, some (196, true), none, false, .mov (.t 19)⟩,
  ⟨some 198, some (196, true), none, false, .bsl 3 1 1 [(.int .i64 0)] [(0, 1, (.v (.int .i64 3)))]⟩,
  ⟨some 199, some (196, true), none, false, .call 32 [(.t 197), (.t 198)]⟩,
  ⟨some 200, none, none, false, .pick (.t 196) (.t 199) (.v (.bool false))⟩,
  ⟨some 201, none, none, false, .mov (.t 200)⟩,
  ⟨some 202, some (201, true), none, false, .mov (.t 21)⟩,
  ⟨some 203, some (201, true), none, false, .lenL (.t 202)⟩,
  ⟨some 204, some (201, true), none, false, .bin .eql 3 true (.t 203) (.v (.int .i64 0))⟩,
  ⟨some 205, none, none, false, .pick (.t 201) (.t 204) (.v (.bool false))⟩,
  ⟨some 206, none, none, false, .mov (.t 205)⟩,
  ⟨some 207, some (206, true), none, false, .mov (.t 23)⟩,
  ⟨some 208, some (206, true), none, false, .bsl 3 1 1 [(.int .i64 0)] [(0, 1, (.v (.int .i64 1)))]⟩,
  ⟨some 209, some (206, true), none, false, .call 32 [(.t 207), (.t 208)]⟩,
  ⟨some 210, none, none, false, .pick (.t 206) (.t 209) (.v (.bool false))⟩,
  ⟨some 211, none, none, false, .mov (.t 210)⟩,
  ⟨some 212, some (211, true), none, false, .mov (.t 25)⟩,
  ⟨some 213, some (211, true), none, false, .bsl 3 1 2 [(.int .i64 0), (.int .i64 0)] [(0, 1, (.v (.int .i64 0))), (1, 1, (.v (.int .i64 1)))]⟩,
  ⟨some 214, some (211, true), none, false, .call 32 [(.t 212), (.t 213)]⟩,
  ⟨some 215, none, none, false, .pick (.t 211) (.t 214) (.v (.bool false))⟩,
  ⟨some 216, none, none, false, .mov (.t 215)⟩,
  ⟨some 217, some (216, true), none, false, .mov (.t 27)⟩,
  ⟨some 218, some (216, true), none, false, .bin .eql 3 true (.t 217) (.v (.int .i64 2))⟩,
  ⟨some 219, none, none, false, .pick (.t 216) (.t 218) (.v (.bool false))⟩,
  ⟨some 220, none, none, false, .mov (.t 219)⟩,
  ⟨some 221, some (220, true), none, false, .ldn 3 (.t 29)⟩,
  ⟨some 222, some (220, true), none, false, .ldn 3 (.t 11)⟩,
  ⟨some 223, some (220, true), none, false, .call 29 [(.t 221), (.t 222)]⟩,
  ⟨some 224, none, none, false, .pick (.t 220) (.t 223) (.v (.bool false))⟩,
  ⟨some 225, none, none, false, .mov (.t 224)⟩,
  ⟨some 226, some (225, true), none, false, .ldn 3 (.t 31)⟩,
  ⟨some 227, some (225, true), none, false, .ldn 3 (.t 7)⟩,
  ⟨some 228, some (225, true), none, false, .call 29 [(.t 226), (.t 227)]⟩,
  ⟨some 229, none, none, false, .pick (.t 225) (.t 228) (.v (.bool false))⟩,
  ⟨some 0, none, none, false, .mov (.t 229)⟩]) .ret))))))))))))))))))))
theorem k16 : fnRC 8 = some ([.tmp 0], r16) := by kernel_rfl

theorem aw0' : calV U 37 [(.agg [(.str [114, 105, 115, 101]), (.int .i64 0), (.int .i64 0), (.int .i64 0), (.int .i64 0), (.str []), .nils])] = some (.agg [(.int .i64 1), (.fz [(.agg [(.str [114, 105, 115, 101]), (.int .i64 0), (.int .i64 0), (.int .i64 0), (.int .i64 0), (.str []), .nils, (.int .i64 1), (.int .i64 0)])])]) := v_of_q (by kernel_rfl) (by kernel_rfl) (callQ_run U aw0)
theorem aw1' : calV U 37 [(.agg [(.str [104, 105, 103, 104]), (.int .i64 0), (.int .i64 0), (.int .i64 0), (.int .i64 0), (.str []), .nils])] = some (.agg [(.int .i64 1), (.fz [(.agg [(.str [104, 105, 103, 104]), (.int .i64 0), (.int .i64 0), (.int .i64 0), (.int .i64 0), (.str []), .nils, (.int .i64 1), (.int .i64 0)])])]) := v_of_q (by kernel_rfl) (by kernel_rfl) (callQ_run U aw1)
theorem aw2' (s : St) : calZ U 18 (some [(.agg [(.int .i64 1), (.fz [(.agg [(.str [114, 105, 115, 101]), (.int .i64 0), (.int .i64 0), (.int .i64 0), (.int .i64 0), (.str []), .nils, (.int .i64 1), (.int .i64 0)])])]), (.fz [(.int .i64 0), (.int .i64 1), (.int .i64 1), (.int .i64 0), (.int .i64 1)])]) s = some ((.tup [(.fz [(.int .i64 1), (.int .i64 4)]), (.int .i64 0)]), s) := calZ_some U s (callQ_run U aw2)
theorem aw3' : calV U 16 [(.agg [(.int .i64 1), (.fz [(.agg [(.str [114, 105, 115, 101]), (.int .i64 0), (.int .i64 0), (.int .i64 0), (.int .i64 0), (.str []), .nils, (.int .i64 1), (.int .i64 0)])])])] = some (.tup [(.agg [(.int .i64 1), (.fz [(.fz [(.int .i64 1), (.int .i64 0)]), (.fz [(.int .i64 1), (.int .i64 0)])]), (.fz [(.fz [(.bool false), (.bool false)]), (.fz [(.bool false), (.bool true)])])]), (.int .i64 0)]) := v_of_q (by kernel_rfl) (by kernel_rfl) (callQ_run U aw3)
theorem aw4' : calV U 16 [(.agg [(.int .i64 1), (.fz [(.agg [(.str [104, 105, 103, 104]), (.int .i64 0), (.int .i64 0), (.int .i64 0), (.int .i64 0), (.str []), .nils, (.int .i64 1), (.int .i64 0)])])])] = some (.tup [(.agg [(.int .i64 1), (.fz [(.fz [(.int .i64 0), (.int .i64 0)])]), (.fz [(.fz [(.bool false), (.bool true)])])]), (.int .i64 0)]) := v_of_q (by kernel_rfl) (by kernel_rfl) (callQ_run U aw4)
theorem aw5' : calV U 38 [(.agg [(.int .i64 1), (.fz [(.agg [(.str [114, 105, 115, 101]), (.int .i64 0), (.int .i64 0), (.int .i64 0), (.int .i64 0), (.str []), .nils, (.int .i64 1), (.int .i64 0)])])])] = some (.tup [(.int .i64 3), (.int .i64 0)]) := v_of_q (by kernel_rfl) (by kernel_rfl) (callQ_run U aw5)
theorem aw6' (s : St) : calZ U 32 (some [(.fz [(.int .i64 1), (.int .i64 4)]), (.fz [(.int .i64 1), (.int .i64 4)])]) s = some ((.bool true), s) := calZ_some U s (callQ_run U aw6)
theorem aw7' (s : St) : calZ U 29 (some [(.agg [(.int .i64 1), (.fz [(.fz [(.int .i64 1), (.int .i64 0)]), (.fz [(.int .i64 1), (.int .i64 0)])]), (.fz [(.fz [(.bool false), (.bool false)]), (.fz [(.bool false), (.bool true)])])]), (.agg [(.int .i64 1), (.fz [(.fz [(.int .i64 1), (.int .i64 0)]), (.fz [(.int .i64 1), (.int .i64 0)])]), (.fz [(.fz [(.bool false), (.bool false)]), (.fz [(.bool false), (.bool true)])])])]) s = some ((.bool true), s) := calZ_some U s (callQ_run U aw7)
theorem aw8' (s : St) : calZ U 39 (some [(.int .i64 1), (.agg [(.str [112, 117, 108, 115, 101]), (.int .i64 0), (.int .i64 0), (.int .i64 2), (.int .i64 2), (.str []), .nils]), (.fz [(.int .i64 0), (.int .i64 1), (.int .i64 1), (.int .i64 0), (.int .i64 1), (.int .i64 0)])]) s = some ((.tup [(.fz [(.bool false), (.bool false), (.bool false), (.bool true), (.bool false), (.bool false)]), (.int .i64 0)]), s) := calZ_some U s (callQ_run U aw8)
theorem aw9' (s : St) : calZ U 39 (some [(.int .i64 2), (.agg [(.str [114, 117, 110, 116]), (.int .i64 0), (.int .i64 1), (.int .i64 0), (.int .i64 0), (.str []), .nils]), (.fz [(.int .i64 0), (.int .i64 1), (.int .i64 1), (.int .i64 0)])]) s = some ((.tup [(.fz [(.bool false), (.bool false), (.bool false), (.bool true)]), (.int .i64 0)]), s) := calZ_some U s (callQ_run U aw9)
theorem aw10' : calV U 9 [(.str [108, 105, 110, 101, 115, 32, 50, 59, 32, 114, 105, 115, 101, 32, 48, 59, 32, 114, 105, 115, 101, 32, 49, 32, 119, 105, 116, 104, 105, 110, 32, 50, 59])] = some (.tup [(.agg [(.int .i64 2), (.fz [(.agg [(.str [114, 105, 115, 101]), (.int .i64 0), (.int .i64 0), (.int .i64 0), (.int .i64 0), (.str []), .nils, (.int .i64 1), (.int .i64 0)]), (.agg [(.str [114, 105, 115, 101]), (.int .i64 1), (.int .i64 0), (.int .i64 0), (.int .i64 0), (.str []), .nils, (.int .i64 1), (.int .i64 2)])])]), (.int .i64 0), (.int .i64 0)]) := v_of_q (by kernel_rfl) (by kernel_rfl) (callQ_run U aw10)
theorem aw11' (s : St) : calZ U 18 (some [(.agg [(.int .i64 2), (.fz [(.agg [(.str [114, 105, 115, 101]), (.int .i64 0), (.int .i64 0), (.int .i64 0), (.int .i64 0), (.str []), .nils, (.int .i64 1), (.int .i64 0)]), (.agg [(.str [114, 105, 115, 101]), (.int .i64 1), (.int .i64 0), (.int .i64 0), (.int .i64 0), (.str []), .nils, (.int .i64 1), (.int .i64 2)])])]), (.fz [(.int .i64 0), (.int .i64 1), (.int .i64 1), (.int .i64 3)])]) s = some ((.tup [(.fz [(.int .i64 3)]), (.int .i64 0)]), s) := calZ_some U s (callQ_run U aw11)
theorem aw12' (s : St) : calZ U 18 (some [(.agg [(.int .i64 2), (.fz [(.agg [(.str [114, 105, 115, 101]), (.int .i64 0), (.int .i64 0), (.int .i64 0), (.int .i64 0), (.str []), .nils, (.int .i64 1), (.int .i64 0)]), (.agg [(.str [114, 105, 115, 101]), (.int .i64 1), (.int .i64 0), (.int .i64 0), (.int .i64 0), (.str []), .nils, (.int .i64 1), (.int .i64 2)])])]), (.fz [(.int .i64 0), (.int .i64 1), (.int .i64 1), (.int .i64 1), (.int .i64 3)])]) s = some ((.tup [.nils, (.int .i64 0)]), s) := calZ_some U s (callQ_run U aw12)
theorem aw13' : calV U 27 [(.agg [(.int .i64 1), (.fz [(.fz [(.int .i64 1), (.int .i64 0)]), (.fz [(.int .i64 1), (.int .i64 0)])]), (.fz [(.fz [(.bool false), (.bool false)]), (.fz [(.bool false), (.bool true)])])]), (.agg [(.int .i64 1), (.fz [(.fz [(.int .i64 0), (.int .i64 0)])]), (.fz [(.fz [(.bool false), (.bool true)])])])] = some (.tup [(.fz [(.int .i64 1)]), (.int .i64 0)]) := v_of_q (by kernel_rfl) (by kernel_rfl) (callQ_run U aw13)
theorem aw14' : calV U 40 [(.agg [(.int .i64 1), (.fz [(.fz [(.int .i64 1), (.int .i64 0)]), (.fz [(.int .i64 1), (.int .i64 0)])]), (.fz [(.fz [(.bool false), (.bool false)]), (.fz [(.bool false), (.bool true)])])])] = some (.tup [(.fz [(.int .i64 0), (.int .i64 1)]), (.int .i64 0)]) := v_of_q (by kernel_rfl) (by kernel_rfl) (callQ_run U aw14)
theorem aw15' : calV U 41 [(.agg [(.int .i64 1), (.fz [(.fz [(.int .i64 1), (.int .i64 0)]), (.fz [(.int .i64 1), (.int .i64 0)])]), (.fz [(.fz [(.bool false), (.bool false)]), (.fz [(.bool false), (.bool true)])])])] = some (.tup [(.int .i64 2), (.int .i64 0)]) := v_of_q (by kernel_rfl) (by kernel_rfl) (callQ_run U aw15)
theorem aw16' : calV U 42 [(.agg [(.int .i64 1), (.fz [(.fz [(.int .i64 1), (.int .i64 0)]), (.fz [(.int .i64 1), (.int .i64 0)])]), (.fz [(.fz [(.bool false), (.bool false)]), (.fz [(.bool false), (.bool true)])])]), (.agg [(.int .i64 1), (.fz [(.fz [(.int .i64 0), (.int .i64 0)])]), (.fz [(.fz [(.bool false), (.bool true)])])])] = some (.tup [(.agg [(.int .i64 1), (.fz [(.fz [(.int .i64 1), (.int .i64 0)]), (.fz [(.int .i64 1), (.int .i64 0)])]), (.fz [(.fz [(.bool false), (.bool false)]), (.fz [(.bool false), (.bool true)])])]), (.int .i64 0)]) := v_of_q (by kernel_rfl) (by kernel_rfl) (callQ_run U aw16)
theorem aw17' : calV U 43 [(.agg [(.int .i64 1), (.fz [(.fz [(.int .i64 1), (.int .i64 0)]), (.fz [(.int .i64 1), (.int .i64 0)])]), (.fz [(.fz [(.bool false), (.bool false)]), (.fz [(.bool false), (.bool true)])])]), (.agg [(.int .i64 1), (.fz [(.fz [(.int .i64 0), (.int .i64 0)])]), (.fz [(.fz [(.bool false), (.bool true)])])])] = some (.tup [(.agg [(.int .i64 1), (.fz [(.fz [(.int .i64 0), (.int .i64 0)])]), (.fz [(.fz [(.bool false), (.bool true)])])]), (.int .i64 0)]) := v_of_q (by kernel_rfl) (by kernel_rfl) (callQ_run U aw17)
theorem aw18' : calV U 9 [(.str [108, 105, 110, 101, 115, 32, 49, 59, 32, 114, 105, 122, 101, 32, 48, 59])] = some (.tup [(.agg [(.int .i64 0), .nils]), (.int .i64 9), (.int .i64 25)]) := v_of_q (by kernel_rfl) (by kernel_rfl) (callQ_run U aw18)
theorem aw19' (s : St) : calZ U 44 (some [(.fz [(.bool false), (.bool false), (.bool false), (.bool true), (.bool false), (.bool false)]), (.fz [(.bool false), (.bool false), (.bool false), (.bool true), (.bool false), (.bool false)])]) s = some ((.bool true), s) := calZ_some U s (callQ_run U aw19)
theorem aw20' (s : St) : calZ U 44 (some [(.fz [(.bool false), (.bool false), (.bool false), (.bool true)]), (.fz [(.bool false), (.bool false), (.bool false), (.bool true)])]) s = some ((.bool true), s) := calZ_some U s (callQ_run U aw20)
theorem aw21' (s : St) : calZ U 32 (some [(.fz [(.int .i64 3)]), (.fz [(.int .i64 3)])]) s = some ((.bool true), s) := calZ_some U s (callQ_run U aw21)
theorem aw22' (s : St) : calZ U 32 (some [(.fz [(.int .i64 1)]), (.fz [(.int .i64 1)])]) s = some ((.bool true), s) := calZ_some U s (callQ_run U aw22)
theorem aw23' (s : St) : calZ U 32 (some [(.fz [(.int .i64 0), (.int .i64 1)]), (.fz [(.int .i64 0), (.int .i64 1)])]) s = some ((.bool true), s) := calZ_some U s (callQ_run U aw23)
theorem aw24' : calV U 29 [(.agg [(.int .i64 1), (.fz [(.fz [(.int .i64 0), (.int .i64 0)])]), (.fz [(.fz [(.bool false), (.bool true)])])]), (.agg [(.int .i64 1), (.fz [(.fz [(.int .i64 0), (.int .i64 0)])]), (.fz [(.fz [(.bool false), (.bool true)])])])] = some (.bool true) := v_of_q (by kernel_rfl) (by kernel_rfl) (callQ_run U aw24)
theorem z23 {args : List AV} {s : St} (h : stills args = false) : callK U (calV U 39 args) 39 args s = calZ U 39 (mapO (frz U s 4000) args) s := z_of (by kernel_rfl) s h
theorem z29 {args : List AV} {s : St} (h : stills args = false) : callK U (calV U 44 args) 44 args s = calZ U 44 (mapO (frz U s 4000) args) s := z_of (by kernel_rfl) s h
theorem z32 {args : List AV} {s : St} (h : stills args = false) : callK U (calV U 18 args) 18 args s = calZ U 18 (mapO (frz U s 4000) args) s := z_of (by kernel_rfl) s h
theorem z56 {args : List AV} {s : St} (h : stills args = false) : callK U (calV U 32 args) 32 args s = calZ U 32 (mapO (frz U s 4000) args) s := z_of (by kernel_rfl) s h
theorem z60 {args : List AV} {s : St} (h : stills args = false) : callK U (calV U 29 args) 29 args s = calZ U 29 (mapO (frz U s 4000) args) s := z_of (by kernel_rfl) s h
theorem zg23 {p : Bool} {args : List AV} {s : St} (h : stills args = false) : gateC U p (calV U 39 args) 39 args s = gateZ p (calZ U 39 (mapO (frz U s 4000) args) s) s := zg_of (by kernel_rfl) s h
theorem zg29 {p : Bool} {args : List AV} {s : St} (h : stills args = false) : gateC U p (calV U 44 args) 44 args s = gateZ p (calZ U 44 (mapO (frz U s 4000) args) s) s := zg_of (by kernel_rfl) s h
theorem zg32 {p : Bool} {args : List AV} {s : St} (h : stills args = false) : gateC U p (calV U 18 args) 18 args s = gateZ p (calZ U 18 (mapO (frz U s 4000) args) s) s := zg_of (by kernel_rfl) s h
theorem zg56 {p : Bool} {args : List AV} {s : St} (h : stills args = false) : gateC U p (calV U 32 args) 32 args s = gateZ p (calZ U 32 (mapO (frz U s 4000) args) s) s := zg_of (by kernel_rfl) s h
theorem zg60 {p : Bool} {args : List AV} {s : St} (h : stills args = false) : gateC U p (calV U 29 args) 29 args s = gateZ p (calZ U 29 (mapO (frz U s 4000) args) s) s := zg_of (by kernel_rfl) s h
theorem wrap_zero : IntKind.i64.wrap 0 = 0 := rfl
theorem awake_ok : calV U 8 [] = some (.bool true) := by
  refine pure_go k16 (by kernel_rfl) rfl ?_
  simp (config := { maxSteps := 2000000 }) +contextual only [go_sem, ↓reduceIte, r16, wrap_zero, aw0', aw1', aw2', aw3', aw4', aw5', aw6', aw7', aw8', aw9', aw10', aw11', aw12', aw13', aw14', aw15', aw16', aw17', aw18', aw19', aw20', aw21', aw22', aw23', aw24', zg23, zg29, zg32, zg56, zg60, z23, z29, z32, z56, z60]
  trace_state
end Go.Am
