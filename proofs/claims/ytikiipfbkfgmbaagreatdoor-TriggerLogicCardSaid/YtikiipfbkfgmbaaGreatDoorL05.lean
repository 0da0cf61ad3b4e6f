/- A part of the proof of a statement of this seat: the machine on which the program is read, and what it computes; for every input. -/
import Derived.Test.YtikiipfbkfgmbaaGreatDoorL04
set_option linter.all false
namespace Go.Am
open Go
variable [MaxLen]
set_option maxRecDepth 100000
set_option maxHeartbeats 8000000
noncomputable def r104_l0:RC:=(.seq (.ops [o 40 (.bin .lss 3 false (.t 39) (.t 38))]) (.seq (.cond (.t 40) .skip (.exit 2)) (.seq (.block 3 (.seq (.ops [o 41 (.ixa 1 (.t 37) (.t 39)),o 42 (.ld1 (.t 41)),om 10 42]) (.seq (.ops [om 44 4,om 45 3,om 46 10,o 47 (.ixa 1 (.t 45) (.t 46)),o 48 (.ld1 (.t 47)),o 49 (.raw (.lookup 249 (.tmp 44) (.tmp 48) true)),om 43 49,o 50 (.ext (.t 43) 0),o 51 (.ext (.t 43) 1),om 11 50,om 12 51]) (.seq (.seq (.ops [om 52 12,o 53 (.un .not (.t 52))]) (.cond (.t 53) (.seq (.ops [om 54 5,o 55 (.lenL (.t 54)),om 11 55]) (.seq (.ops [om 56 4,om 57 3,om 58 10,o 59 (.ixa 1 (.t 57) (.t 58)),o 60 (.ld1 (.t 59)),om 61 11,oS (.raw (.mapUpdate 249 (.tmp 56) (.tmp 60) (.tmp 61)))]) (.ops [om 62 5,om 63 10,o 64 (.bsl 3 1 1 [(.int .i64 0)] [(0,1,(.t 63))]),o 65 (.app 3 1 8 (.t 62) (.t 64)),om 5 65]))) .skip)) (.ops [om 66 8,om 67 11,o 68 (.bsl 3 1 1 [(.int .i64 0)] [(0,1,(.t 67))]),o 69 (.app 3 1 8 (.t 66) (.t 68)),om 8 69]))))) (.ops [o 70 (.bin .add 3 true (.t 39) (.v (.int .i64 1))),om 39 70]))))
noncomputable def q104_0:Code:=rawAt 104 0
theorem d104_0:rcDrc U q104_0=some (22,[(o 71 (.fa 1 (.t 6)),none),
 (o 72 (.ld1 (.t 71)),none),
 (om 73 8,none),
 (⟨some 74,none,some 3,false,.bsl 40 1 1 [.nils] [(0,1,(.t 73))]⟩,none),
 (⟨some 75,none,none,true,.app 40 1 24 (.t 72) (.t 74)⟩,none),
 (o 76 (.fa 2 (.t 6)),none),
 (o 77 (.ld1 (.t 76)),some (0,2)),
 (o 78 (.fa 2 (.t 1)),none),
 (o 79 (.ld1 (.t 78)),some (0,1)),
 (om 80 5,none),
 (om 81 7,none),
 (o 82 (.ixa 1 (.t 80) (.t 81)),none),
 (o 83 (.ld1 (.t 82)),some (0,1)),
 (o 84 (.ixa 1 (.t 79) (.t 83)),none),
 (o 85 (.ld1 (.t 84)),some (0,1)),
 (⟨some 86,none,none,true,.call 173 [(.t 85)]⟩,none),
 (⟨some 87,none,some 16,false,.bsl 43 1 1 [.nils] [(0,1,(.t 86))]⟩,none),
 (⟨some 88,none,none,true,.app 43 1 24 (.t 77) (.t 87)⟩,none),
 (o 89 (.fa 1 (.t 6)),none),
 (⟨none,none,none,true,.st 1 (.t 89) (.t 75)⟩,none),
 (o 90 (.fa 2 (.t 6)),none),
 (⟨none,none,none,true,.st 1 (.t 90) (.t 88)⟩,none)]):=by kernel_rfl
noncomputable def r104_l1:RC:=(.seq (.seq (.ops [om 24 7,om 25 5,o 26 (.lenL (.t 25)),o 27 (.bin .lss 3 false (.t 24) (.t 26))]) (.cond (.t 27) .skip (.exit 0))) (.seq (.block 1 (.seq (.ops [o 8 (.mov (.v .nils))]) (.seq (.seq (.drw 10 [o 30 (.fa 1 (.t 1)),o 31 (.ld1 (.t 30)),om 32 5,om 33 7,o 34 (.ixa 1 (.t 32) (.t 33)),o 35 (.ld1 (.t 34)),o 36 (.ixa 1 (.t 31) (.t 35)),o 37 (.ld1 (.t 36)),o 38 (.lenL (.t 37)),o 39 (.mov (.v (.int .i64 0)))]) (.block 2 (.loop r104_l0))) (.raw q104_0)))) (.ops [om 28 7,o 29 (.bin .add 3 true (.t 28) (.v (.int .i64 1))),om 7 29])))
noncomputable def r104:RC:=(.seq (.ops [o 1 (.box 69 (.t 0)),o 2 (.al [(.int .i64 0),.nils,.nils] 69)]) (.seq (.ops [o 13 (.ldn 3 (.t 1)),o 14 (.call 172 [(.t 13)]),om 3 14]) (.seq (.ops [o 15 (.raw (.makeMap 249 none)),om 16 3,o 17 (.ixa 1 (.t 16) (.v (.int .i64 0))),o 18 (.ld1 (.t 17)),oS (.raw (.insert 249 (.tmp 15) (.tmp 18) (.const (.int .i64 0)))),om 19 15,om 4 19]) (.seq (.ops [o 20 (.bsl 3 1 1 [(.int .i64 0)] [(0,1,(.v (.int .i64 0)))]),om 5 20]) (.seq (.ops [o 21 (.fa 0 (.t 1)),o 22 (.ld1 (.t 21)),o 23 (.bld [(.int .i64 0),.nils,.nils] [(0,1,(.t 22))]),o 6 (.al [(.int .i64 0),.nils,.nils] 69),oS (.st 3 (.t 6) (.t 23))]) (.seq (.seq (.ops [o 7 (.mov (.v (.int .i64 0)))]) (.block 0 (.loop r104_l1))) (.seq (.ops [o 91 (.ldn 3 (.t 6)),oS (.st 3 (.t 2) (.t 91))]) .ret)))))))
theorem k104:fnRC 104=some ([.cell 2 69],r104):=by kernel_rfl
noncomputable def q172_0:Code:=rawAt 172 0
theorem d172_0:rcDrc U q172_0=some (23,[(om 47 4,none),
 (om 48 5,none),
 (o 49 (.ixa 1 (.t 47) (.t 48)),none),
 (o 50 (.ld1 (.t 49)),some (0,1)),
 (om 51 7,none),
 (om 52 5,none),
 (o 53 (.ixa 1 (.t 51) (.t 52)),none),
 (o 54 (.ld1 (.t 53)),some (0,1)),
 (om 55 4,none),
 (om 56 5,none),
 (o 57 (.ixa 1 (.t 55) (.t 56)),none),
 (o 58 (.ld1 (.t 57)),none),
 (om 59 7,none),
 (om 60 5,none),
 (o 61 (.ixa 1 (.t 59) (.t 60)),none),
 (o 62 (.ld1 (.t 61)),none),
 (o 63 (.ixa 1 (.t 58) (.t 62)),none),
 (o 64 (.ld1 (.t 63)),none),
 (om 65 6,none),
 (⟨some 66,none,some 19,false,.bsl 3 1 1 [(.int .i64 0)] [(0,1,(.t 65))]⟩,none),
 (⟨some 67,none,none,true,.app 3 1 8 (.t 64) (.t 66)⟩,none),
 (o 68 (.ixa 1 (.t 50) (.t 54)),none),
 (⟨none,none,none,true,.st 1 (.t 68) (.t 67)⟩,none)]):=by kernel_rfl
noncomputable def r172_l0:RC:=(.seq (.ops [o 43 (.bin .lss 3 false (.t 42) (.t 41))]) (.seq (.cond (.t 43) .skip (.exit 2)) (.seq (.block 3 (.seq (.ops [om 44 42,o 45 (.ixa 1 (.t 40) (.t 42)),o 46 (.ld1 (.t 45)),om 6 44,om 7 46]) (.raw q172_0))) (.ops [o 69 (.bin .add 3 true (.t 42) (.v (.int .i64 1))),om 42 69]))))
noncomputable def r172_l1:RC:=(.seq (.ops [o 30 (.bin .lss 3 false (.t 29) (.t 28))]) (.seq (.cond (.t 30) .skip (.exit 0)) (.seq (.block 1 (.seq (.ops [om 31 29,om 5 31]) (.seq (.ops [om 32 4,om 33 5,o 34 (.fa 1 (.t 1)),o 35 (.ld1 (.t 34)),o 36 (.lenL (.t 35)),o 37 (.raw (.makeSlice 66 (.tmp 36) (.tmp 36))),o 38 (.ixa 1 (.t 32) (.t 33)),oS (.st 1 (.t 38) (.t 37))]) (.seq (.ops [o 39 (.fa 1 (.t 1)),o 40 (.ld1 (.t 39)),o 41 (.lenL (.t 40)),o 42 (.mov (.v (.int .i64 0)))]) (.block 2 (.loop r172_l0)))))) (.ops [o 70 (.bin .add 3 true (.t 29) (.v (.int .i64 1))),om 29 70]))))
noncomputable def r172_l2:RC:=(.seq (.ops [o 77 (.bin .lss 3 false (.t 76) (.t 75))]) (.seq (.cond (.t 77) .skip (.exit 4)) (.seq (.block 5 (.seq (.ops [om 78 76,om 9 78]) (.ops [om 79 8,om 80 9,o 81 (.bsl 3 1 1 [(.int .i64 0)] [(0,1,(.t 80))]),o 82 (.app 3 1 8 (.t 79) (.t 81)),om 8 82]))) (.ops [o 83 (.bin .add 3 true (.t 76) (.v (.int .i64 1))),om 76 83]))))
noncomputable def r172_l3:RC:=(.seq (.ops [o 138 (.bin .lss 3 false (.t 137) (.t 136))]) (.seq (.cond (.t 138) .skip (.exit 12)) (.seq (.block 13 (.seq (.ops [o 139 (.ixa 1 (.t 135) (.t 137)),o 140 (.ld1 (.t 139)),om 17 140]) (.seq (.ops [om 141 3,om 142 17,o 143 (.call 216 [(.t 141),(.t 142)])]) (.cond (.t 143) (.ops [om 144 13,om 145 3,o 146 (.raw (.nilCheck (.tmp 145))),o 147 (.fa 2 (.t 146)),o 148 (.ld1 (.t 147)),om 149 17,o 150 (.ixa 1 (.t 148) (.t 149)),o 151 (.ld1 (.t 150)),o 152 (.bsl 3 1 1 [(.int .i64 0)] [(0,1,(.t 151))]),o 153 (.app 3 1 8 (.t 144) (.t 152)),om 13 153]) .skip)))) (.ops [o 154 (.bin .add 3 true (.t 137) (.v (.int .i64 1))),om 137 154]))))
noncomputable def r172_l4:RC:=(.seq (.ops [o 126 (.bin .lss 3 false (.t 125) (.t 124))]) (.seq (.cond (.t 126) .skip (.exit 10)) (.seq (.block 11 (.seq (.ops [o 127 (.ixa 1 (.t 123) (.t 125)),o 128 (.ld1 (.t 127)),om 15 128]) (.seq (.ops [om 129 4,om 130 12,o 131 (.ixa 1 (.t 129) (.t 130)),o 132 (.ld1 (.t 131)),om 133 15,o 134 (.ixa 1 (.t 132) (.t 133)),o 135 (.ld1 (.t 134)),o 136 (.lenL (.t 135)),o 137 (.mov (.v (.int .i64 0)))]) (.block 12 (.loop r172_l3))))) (.ops [o 155 (.bin .add 3 true (.t 125) (.v (.int .i64 1))),om 125 155]))))
noncomputable def r172_l5:RC:=(.seq (.ops [o 159 (.bin .lss 3 false (.t 158) (.t 157))]) (.seq (.cond (.t 159) .skip (.exit 14)) (.seq (.block 15 (.seq (.ops [o 160 (.ixa 1 (.t 156) (.t 158)),o 161 (.ld1 (.t 160)),om 19 161]) (.seq (.ops [om 162 3,om 163 19,o 164 (.call 217 [(.t 162),(.t 163)]),om 20 164]) (.seq (.ops [om 165 20,o 166 (.bin .geq 3 true (.t 165) (.v (.int .i64 0)))]) (.cond (.t 166) (.ops [om 167 8,om 168 20,o 169 (.bsl 3 1 1 [(.int .i64 0)] [(0,1,(.t 168))]),o 170 (.app 3 1 8 (.t 167) (.t 169)),om 8 170]) .skip))))) (.ops [o 171 (.bin .add 3 true (.t 158) (.v (.int .i64 1))),om 158 171]))))
noncomputable def r172_l6:RC:=(.seq (.ops [o 121 (.bin .lss 3 false (.t 120) (.t 119))]) (.seq (.cond (.t 121) .skip (.exit 8)) (.seq (.block 9 (.seq (.ops [om 122 120,om 12 122]) (.seq (.ops [o 13 (.mov (.v .nils))]) (.seq (.seq (.ops [om 123 11,o 124 (.lenL (.t 123)),o 125 (.mov (.v (.int .i64 0)))]) (.block 10 (.loop r172_l4))) (.seq (.ops [om 156 13,o 157 (.lenL (.t 156)),o 158 (.mov (.v (.int .i64 0)))]) (.block 14 (.loop r172_l5))))))) (.ops [o 172 (.bin .add 3 true (.t 120) (.v (.int .i64 1))),om 120 172]))))
noncomputable def r172_l7:RC:=(.seq (.seq (.ops [om 84 8,o 85 (.lenL (.t 84)),o 86 (.bin .gtr 3 true (.t 85) (.v (.int .i64 0)))]) (.cond (.t 86) .skip (.exit 6))) (.block 7 (.seq (.ops [om 87 8,om 88 8,o 89 (.lenL (.t 88)),o 90 (.bin .sub 3 true (.t 89) (.v (.int .i64 1))),o 91 (.ixa 1 (.t 87) (.t 90)),o 92 (.ld1 (.t 91)),om 10 92]) (.seq (.ops [om 93 8,om 94 8,o 95 (.lenL (.t 94)),o 96 (.bin .sub 3 true (.t 95) (.v (.int .i64 1))),o 97 (.sll 1 (.t 93) none (some (.t 96))),om 8 97]) (.seq (.drw 21 [om 98 3,o 99 (.raw (.nilCheck (.tmp 98))),o 100 (.fa 0 (.t 99)),o 101 (.ld1 (.t 100)),om 102 3,o 103 (.raw (.nilCheck (.tmp 102))),o 104 (.fa 3 (.t 103)),o 105 (.ld1 (.t 104)),om 106 10,o 107 (.ixa 1 (.t 105) (.t 106)),o 108 (.ld1 (.t 107)),om 109 3,o 110 (.raw (.nilCheck (.tmp 109))),o 111 (.fa 4 (.t 110)),o 112 (.ld1 (.t 111)),om 113 10,o 114 (.ixa 1 (.t 112) (.t 113)),o 115 (.ld1 (.t 114)),o 116 (.sll 1 (.t 101) (some (.t 108)) (some (.t 115))),
 ⟨some 117,none,none,true,.call 215 [(.t 116)]⟩,om 11 117]) (.seq (.ops [om 118 4,o 119 (.lenL (.t 118)),o 120 (.mov (.v (.int .i64 0)))]) (.block 8 (.loop r172_l6))))))))
noncomputable def r172:RC:=(.seq (.ops [o 1 (.box 69 (.t 0)),o 2 (.mov (.v .nils))]) (.seq (.ops [o 21 (.ldn 3 (.t 1)),o 22 (.call 214 [(.t 21)]),om 3 22]) (.seq (.ops [o 23 (.fa 0 (.t 1)),o 24 (.ld1 (.t 23)),o 25 (.bin .shl 3 true (.v (.int .i64 1)) (.t 24)),o 26 (.raw (.makeSlice 283 (.tmp 25) (.tmp 25))),om 4 26]) (.seq (.seq (.ops [om 27 4,o 28 (.lenL (.t 27)),o 29 (.mov (.v (.int .i64 0)))]) (.block 0 (.loop r172_l1))) (.seq (.ops [o 8 (.mov (.v .nils))]) (.seq (.seq (.ops [om 71 3,o 72 (.raw (.nilCheck (.tmp 71))),o 73 (.fa 3 (.t 72)),o 74 (.ld1 (.t 73)),o 75 (.lenL (.t 74)),o 76 (.mov (.v (.int .i64 0)))]) (.block 4 (.loop r172_l2))) (.seq (.block 6 (.loop r172_l7)) (.seq (.ops [om 173 3,o 174 (.raw (.nilCheck (.tmp 173))),o 175 (.fa 2 (.t 174)),o 176 (.ld1 (.t 175)),om 2 176]) .ret))))))))
theorem k172:fnRC 172=some ([.tmp 2],r172):=by kernel_rfl
noncomputable def q214_0:Code:=rawAt 214 0
theorem d214_0:rcDrc U q214_0=some (11,[(o 16 (.fa 1 (.t 1)),none),
 (o 17 (.ld1 (.t 16)),none),
 (o 18 (.lenL (.t 17)),none),
 (⟨some 19,none,some 3,false,.raw (.makeSlice 40 (.tmp 18) (.tmp 18))⟩,none),
 (o 20 (.fa 1 (.t 1)),none),
 (o 21 (.ld1 (.t 20)),some (0,0)),
 (o 22 (.lenL (.t 21)),some (0,0)),
 (⟨some 23,none,some 7,false,.raw (.makeSlice 40 (.tmp 22) (.tmp 22))⟩,none),
 (o 24 (.bld [.nils,.nils,.nils,.nils,.nils,.nils] [(1,1,(.t 19)),(2,1,(.t 23))]),none),
 (⟨some 25,none,some 9,false,.box 285 (.t 24)⟩,none),
 (om 3 25,none)]):=by kernel_rfl
noncomputable def r214_l0:RC:=(.seq (.ops [o 38 (.bin .lss 3 false (.t 37) (.t 36))]) (.seq (.cond (.t 38) .skip (.exit 2)) (.seq (.block 3 (.seq (.ops [o 39 (.ixa 1 (.t 35) (.t 37)),o 40 (.ld1 (.t 39)),om 10 40]) (.ops [om 41 10,o 42 (.call 244 [(.t 41)]),o 43 (.call 131 [(.t 8),(.t 42)])]))) (.ops [o 44 (.bin .add 3 true (.t 37) (.v (.int .i64 1))),om 37 44]))))
noncomputable def r214_l1:RC:=(.seq (.ops [o 31 (.bin .lss 3 false (.t 30) (.t 29))]) (.seq (.cond (.t 31) .skip (.exit 0)) (.seq (.block 1 (.seq (.ops [om 32 30,o 33 (.ixa 1 (.t 28) (.t 30)),o 34 (.ld1 (.t 33)),om 6 32,om 7 34]) (.seq (.ops [o 8 (.al [.nilp,.nils] 207)]) (.seq (.seq (.ops [om 35 7,o 36 (.lenL (.t 35)),o 37 (.mov (.v (.int .i64 0)))]) (.block 2 (.loop r214_l0))) (.seq (.ops [o 45 (.call 133 [(.t 8)]),om 11 45]) (.seq (.seq (.ops [om 46 4,om 47 11,o 48 (.raw (.lookup 310 (.tmp 46) (.tmp 47) false)),o 49 (.lenL (.t 48)),o 50 (.bin .eql 3 true (.t 49) (.v (.int .i64 0)))]) (.cond (.t 50) (.ops [om 51 5,om 52 11,o 53 (.bsl 9 1 1 [(.str [])] [(0,1,(.t 52))]),o 54 (.app 9 1 16 (.t 51) (.t 53)),om 5 54]) .skip)) (.ops [om 55 4,om 56 11,om 57 4,om 58 11,o 59 (.raw (.lookup 310 (.tmp 57) (.tmp 58) false)),om 60 6,o 61 (.bsl 3 1 1 [(.int .i64 0)] [(0,1,(.t 60))]),o 62 (.app 3 1 8 (.t 59) (.t 61)),oS (.raw (.mapUpdate 310 (.tmp 55) (.tmp 56) (.tmp 62)))]))))))) (.ops [o 63 (.bin .add 3 true (.t 30) (.v (.int .i64 1))),om 30 63]))))
noncomputable def q214_1:Code:=rawAt 214 1
theorem d214_1:rcDrc U q214_1=some (25,[(om 71 3,none),
 (om 72 3,none),
 (om 73 3,none),
 (o 74 (.raw (.nilCheck (.tmp 73))),none),
 (o 75 (.fa 3 (.t 74)),none),
 (o 76 (.ld1 (.t 75)),none),
 (om 77 3,none),
 (o 78 (.raw (.nilCheck (.tmp 77))),none),
 (o 79 (.fa 0 (.t 78)),none),
 (o 80 (.ld1 (.t 79)),none),
 (o 81 (.lenL (.t 80)),none),
 (⟨some 82,none,some 11,false,.bsl 3 1 1 [(.int .i64 0)] [(0,1,(.t 81))]⟩,none),
 (⟨some 83,none,none,true,.app 3 1 8 (.t 76) (.t 82)⟩,none),
 (om 84 3,none),
 (o 85 (.raw (.nilCheck (.tmp 84))),none),
 (o 86 (.fa 5 (.t 85)),none),
 (o 87 (.ld1 (.t 86)),some (0,1)),
 (⟨some 88,none,some 17,false,.bsl 3 1 1 [(.int .i64 0)] [(0,1,(.v (.int .i64 0)))]⟩,none),
 (⟨some 89,none,none,true,.app 3 1 8 (.t 87) (.t 88)⟩,none),
 (o 90 (.raw (.nilCheck (.tmp 71))),none),
 (o 91 (.fa 3 (.t 90)),none),
 (⟨none,none,none,true,.st 1 (.t 91) (.t 83)⟩,none),
 (o 92 (.raw (.nilCheck (.tmp 72))),none),
 (o 93 (.fa 5 (.t 92)),none),
 (⟨none,none,none,true,.st 1 (.t 93) (.t 89)⟩,none)]):=by kernel_rfl
noncomputable def r214_l2:RC:=(.seq (.ops [o 99 (.bin .lss 3 false (.t 98) (.t 97))]) (.seq (.cond (.t 99) .skip (.exit 6)) (.seq (.block 7 (.seq (.ops [o 100 (.ixa 1 (.t 96) (.t 98)),o 101 (.ld1 (.t 100)),om 15 101]) (.seq (.drw 20 [om 102 3,o 103 (.raw (.nilCheck (.tmp 102))),o 104 (.fa 1 (.t 103)),o 105 (.ld1 (.t 104)),om 106 15,om 107 3,o 108 (.raw (.nilCheck (.tmp 107))),o 109 (.fa 2 (.t 108)),o 110 (.ld1 (.t 109)),om 111 15,om 112 3,o 113 (.raw (.nilCheck (.tmp 112))),o 114 (.fa 0 (.t 113)),o 115 (.ld1 (.t 114)),o 116 (.lenL (.t 115)),om 117 12,o 118 (.ixa 1 (.t 105) (.t 106)),
 ⟨none,none,none,true,.st 1 (.t 118) (.t 116)⟩,o 119 (.ixa 1 (.t 110) (.t 111)),
 ⟨none,none,none,true,.st 1 (.t 119) (.t 117)⟩]) (.ops [om 120 3,om 121 3,o 122 (.raw (.nilCheck (.tmp 121))),o 123 (.fa 0 (.t 122)),o 124 (.ld1 (.t 123)),om 125 15,o 126 (.bsl 3 1 1 [(.int .i64 0)] [(0,1,(.t 125))]),o 127 (.app 3 1 8 (.t 124) (.t 126)),o 128 (.raw (.nilCheck (.tmp 120))),o 129 (.fa 0 (.t 128)),oS (.st 1 (.t 129) (.t 127))])))) (.ops [o 130 (.bin .add 3 true (.t 98) (.v (.int .i64 1))),om 98 130]))))
noncomputable def r214_l3:RC:=(.seq (.ops [o 67 (.bin .lss 3 false (.t 66) (.t 65))]) (.seq (.cond (.t 67) .skip (.exit 4)) (.seq (.block 5 (.seq (.ops [om 68 66,o 69 (.ixa 1 (.t 64) (.t 66)),o 70 (.ld1 (.t 69)),om 12 68,om 13 70]) (.seq (.raw q214_1) (.seq (.seq (.ops [om 94 4,om 95 13,o 96 (.raw (.lookup 310 (.tmp 94) (.tmp 95) false)),o 97 (.lenL (.t 96)),o 98 (.mov (.v (.int .i64 0)))]) (.block 6 (.loop r214_l2))) (.drw 15 [om 131 3,om 132 3,o 133 (.raw (.nilCheck (.tmp 132))),o 134 (.fa 4 (.t 133)),o 135 (.ld1 (.t 134)),om 136 3,o 137 (.raw (.nilCheck (.tmp 136))),o 138 (.fa 0 (.t 137)),o 139 (.ld1 (.t 138)),o 140 (.lenL (.t 139)),
 ⟨some 141,none,some 10,false,.bsl 3 1 1 [(.int .i64 0)] [(0,1,(.t 140))]⟩,
 ⟨some 142,none,none,true,.app 3 1 8 (.t 135) (.t 141)⟩,o 143 (.raw (.nilCheck (.tmp 131))),o 144 (.fa 4 (.t 143)),
 ⟨none,none,none,true,.st 1 (.t 144) (.t 142)⟩]))))) (.ops [o 145 (.bin .add 3 true (.t 66) (.v (.int .i64 1))),om 66 145]))))
noncomputable def r214:RC:=(.seq (.ops [o 1 (.box 69 (.t 0)),o 2 (.mov (.v .nilp))]) (.seq (.raw q214_0) (.seq (.ops [o 26 (.raw (.makeMap 310 none)),om 4 26]) (.seq (.ops [o 5 (.mov (.v .nils))]) (.seq (.seq (.ops [o 27 (.fa 2 (.t 1)),o 28 (.ld1 (.t 27)),o 29 (.lenL (.t 28)),o 30 (.mov (.v (.int .i64 0)))]) (.block 0 (.loop r214_l1))) (.seq (.seq (.ops [om 64 5,o 65 (.lenL (.t 64)),o 66 (.mov (.v (.int .i64 0)))]) (.block 4 (.loop r214_l3))) (.seq (.ops [om 146 3,om 2 146]) .ret)))))))
theorem k214:fnRC 214=some ([.tmp 2],r214):=by kernel_rfl
noncomputable def q217_0:Code:=rawAt 217 0
theorem d217_0:rcDrc U q217_0=some (32,[(om 84 0,none),
 (om 85 0,none),
 (om 86 0,none),
 (om 87 0,none),
 (o 88 (.raw (.nilCheck (.tmp 87))),none),
 (o 89 (.fa 3 (.t 88)),none),
 (o 90 (.ld1 (.t 89)),none),
 (om 91 7,none),
 (⟨some 92,none,some 8,false,.bsl 3 1 1 [(.int .i64 0)] [(0,1,(.t 91))]⟩,none),
 (⟨some 93,none,none,true,.app 3 1 8 (.t 90) (.t 92)⟩,none),
 (om 94 0,none),
 (o 95 (.raw (.nilCheck (.tmp 94))),none),
 (o 96 (.fa 4 (.t 95)),none),
 (o 97 (.ld1 (.t 96)),some (0,1)),
 (om 98 8,none),
 (⟨some 99,none,some 15,false,.bsl 3 1 1 [(.int .i64 0)] [(0,1,(.t 98))]⟩,none),
 (⟨some 100,none,none,true,.app 3 1 8 (.t 97) (.t 99)⟩,none),
 (om 101 0,none),
 (o 102 (.raw (.nilCheck (.tmp 101))),none),
 (o 103 (.fa 5 (.t 102)),none),
 (o 104 (.ld1 (.t 103)),some (0,2)),
 (⟨some 105,none,some 21,false,.bsl 3 1 1 [(.int .i64 0)] [(0,1,(.v (.int .i64 0)))]⟩,none),
 (⟨some 106,none,none,true,.app 3 1 8 (.t 104) (.t 105)⟩,none),
 (o 107 (.raw (.nilCheck (.tmp 84))),none),
 (o 108 (.fa 3 (.t 107)),none),
 (⟨none,none,none,true,.st 1 (.t 108) (.t 93)⟩,none),
 (o 109 (.raw (.nilCheck (.tmp 85))),none),
 (o 110 (.fa 4 (.t 109)),none),
 (⟨none,none,none,true,.st 1 (.t 110) (.t 100)⟩,none),
 (o 111 (.raw (.nilCheck (.tmp 86))),none),
 (o 112 (.fa 5 (.t 111)),none),
 (⟨none,none,none,true,.st 1 (.t 112) (.t 106)⟩,none)]):=by kernel_rfl
noncomputable def r217_l0:RC:=(.seq (.ops [o 122 (.bin .lss 3 false (.t 121) (.t 120))]) (.seq (.cond (.t 122) .skip (.exit 0)) (.seq (.block 1 (.seq (.ops [o 123 (.ixa 1 (.t 119) (.t 121)),o 124 (.ld1 (.t 123)),om 10 124]) (.drw 13 [om 125 0,o 126 (.raw (.nilCheck (.tmp 125))),o 127 (.fa 2 (.t 126)),o 128 (.ld1 (.t 127)),om 129 10,om 130 0,o 131 (.raw (.nilCheck (.tmp 130))),o 132 (.fa 3 (.t 131)),o 133 (.ld1 (.t 132)),o 134 (.lenL (.t 133)),o 135 (.bin .sub 3 true (.t 134) (.v (.int .i64 1))),o 136 (.ixa 1 (.t 128) (.t 129)),
 ⟨none,none,none,true,.st 1 (.t 136) (.t 135)⟩]))) (.ops [o 137 (.bin .add 3 true (.t 121) (.v (.int .i64 1))),om 121 137]))))
noncomputable def r217:RC:=(.seq (.ops [o 4 (.mov (.v (.int .i64 0)))]) (.seq (.drw 24 [om 11 0,o 12 (.raw (.nilCheck (.tmp 11))),o 13 (.fa 5 (.t 12)),o 14 (.ld1 (.t 13)),om 15 1,o 16 (.ixa 1 (.t 14) (.t 15)),o 17 (.ld1 (.t 16)),om 18 0,o 19 (.raw (.nilCheck (.tmp 18))),o 20 (.fa 4 (.t 19)),o 21 (.ld1 (.t 20)),om 22 1,o 23 (.ixa 1 (.t 21) (.t 22)),o 24 (.ld1 (.t 23)),om 25 0,o 26 (.raw (.nilCheck (.tmp 25))),o 27 (.fa 3 (.t 26)),o 28 (.ld1 (.t 27)),om 29 1,o 30 (.ixa 1 (.t 28) (.t 29)),o 31 (.ld1 (.t 30)),o 32 (.bin .sub 3 false (.t 24) (.t 31)),om 5 17,om 6 32]) (.seq (.ops [om 33 0,o 34 (.raw (.nilCheck (.tmp 33))),o 35 (.fa 5 (.t 34)),o 36 (.ld1 (.t 35)),om 37 1,o 38 (.ixa 1 (.t 36) (.t 37)),oS (.st 1 (.t 38) (.v (.int .i64 0)))]) (.seq (.seq (.ops [om 39 5,om 40 6,o 41 (.bin .eql 3 false (.t 39) (.t 40))]) (.cond (.t 41) (.seq (.ops [o 4 (.mov (.v (.int .i64 (-1))))]) .ret) .skip)) (.seq (.drw 18 [om 42 0,o 43 (.raw (.nilCheck (.tmp 42))),o 44 (.fa 3 (.t 43)),o 45 (.ld1 (.t 44)),om 46 1,o 47 (.ixa 1 (.t 45) (.t 46)),o 48 (.ld1 (.t 47)),om 49 0,o 50 (.raw (.nilCheck (.tmp 49))),o 51 (.fa 3 (.t 50)),o 52 (.ld1 (.t 51)),om 53 1,o 54 (.ixa 1 (.t 52) (.t 53)),o 55 (.ld1 (.t 54)),om 56 5,o 57 (.bin .add 3 false (.t 55) (.t 56)),om 7 48,om 8 57]) (.seq (.seq (.ops [om 58 5,o 59 (.bin .mul 3 true (.v (.int .i64 2)) (.t 58)),om 60 6,o 61 (.bin .gtr 3 false (.t 59) (.t 60))]) (.cond (.t 61) (.seq (.drw 10 [om 62 8,om 63 0,o 64 (.raw (.nilCheck (.tmp 63))),o 65 (.fa 4 (.t 64)),o 66 (.ld1 (.t 65)),om 67 1,o 68 (.ixa 1 (.t 66) (.t 67)),o 69 (.ld1 (.t 68)),om 7 62,om 8 69]) (.ops [om 70 0,o 71 (.raw (.nilCheck (.tmp 70))),o 72 (.fa 4 (.t 71)),o 73 (.ld1 (.t 72)),om 74 1,om 75 7,o 76 (.ixa 1 (.t 73) (.t 74)),oS (.st 1 (.t 76) (.t 75))])) (.ops [om 77 0,o 78 (.raw (.nilCheck (.tmp 77))),o 79 (.fa 3 (.t 78)),o 80 (.ld1 (.t 79)),om 81 1,om 82 8,o 83 (.ixa 1 (.t 80) (.t 81)),oS (.st 1 (.t 83) (.t 82))]))) (.seq (.raw q217_0) (.seq (.seq (.ops [om 113 0,o 114 (.raw (.nilCheck (.tmp 113))),o 115 (.fa 0 (.t 114)),o 116 (.ld1 (.t 115)),om 117 7,om 118 8,o 119 (.sll 1 (.t 116) (some (.t 117)) (some (.t 118))),o 120 (.lenL (.t 119)),o 121 (.mov (.v (.int .i64 0)))]) (.block 0 (.loop r217_l0))) (.seq (.ops [om 138 0,o 139 (.raw (.nilCheck (.tmp 138))),o 140 (.fa 3 (.t 139)),o 141 (.ld1 (.t 140)),o 142 (.lenL (.t 141)),o 143 (.bin .sub 3 true (.t 142) (.v (.int .i64 1))),om 4 143]) .ret)))))))))
theorem k217:fnRC 217=some ([.tmp 4],r217):=by kernel_rfl
end Go.Am
namespace Go.Am
open Go
variable [MaxLen]
set_option maxRecDepth 100000
set_option maxHeartbeats 4000000
structure PtI (s:St)(pb n bl bp bs bb be bm:Nat)(p:Pt):Prop where
 g:s.get pb=some (.cells [.sl bl 0 p.list.length none 1,.sl bp 0 p.place.length (some n) 1,.sl bs 0 p.set.length (some n) 1,.sl bb 0 p.bg.length none 1,.sl be 0 p.en.length none 1,.sl bm 0 p.mr.length none 1] 285 false 0 0)
 gl:s.get bl=some (.cells (nats p.list) 3 false 0 0)
 gp:s.get bp=some (.cells (nats p.place) 3 false 0 0)
 gs:s.get bs=some (.cells (nats p.set) 3 false 0 0)
 gb:s.get bb=some (.cells (nats p.bg) 3 false 0 0)
 ge:s.get be=some (.cells (nats p.en) 3 false 0 0)
 gm:s.get bm=some (.cells (nats p.mr) 3 false 0 0)
 ne:[pb,bl,bp,bs,bb,be,bm].Nodup
 lt:∀j∈[pb,bl,bp,bs,bb,be,bm],j<s.next
theorem PtI.mono {s s':St}{pb n bl bp bs bb be bm:Nat}{p:Pt}(h:PtI s pb n bl bp bs bb be bm p)(hn:s.next≤s'.next)(hg:∀j∈[pb,bl,bp,bs,bb,be,bm],s'.get j=s.get j):PtI s' pb n bl bp bs bb be bm p :=
 ⟨(hg _ (by simp)).trans h.g,(hg _ (by simp)).trans h.gl,(hg _ (by simp)).trans h.gp,(hg _ (by simp)).trans h.gs,(hg _ (by simp)).trans h.gb,(hg _ (by simp)).trans h.ge,(hg _ (by simp)).trans h.gm,h.ne,fun j hj=>Nat.lt_of_lt_of_le (h.lt j hj) hn⟩
structure Ap (pb bl bp bs bb be bm:Nat):Prop where
 n1:pb≠bl
 n2:pb≠bp
 n3:pb≠bs
 n4:pb≠bb
 n5:pb≠be
 n6:pb≠bm
 n7:bl≠bp
 n8:bl≠bs
 n9:bl≠bb
 n10:bl≠be
 n11:bl≠bm
 n12:bp≠bs
 n13:bp≠bb
 n14:bp≠be
 n15:bp≠bm
 n16:bs≠bb
 n17:bs≠be
 n18:bs≠bm
 n19:bb≠be
 n20:bb≠bm
 n21:be≠bm
theorem Ap.of {pb bl bp bs bb be bm:Nat}(ne:[pb,bl,bp,bs,bb,be,bm].Nodup):Ap pb bl bp bs bb be bm:=by
 simp only[List.nodup_cons,List.mem_cons,List.not_mem_nil,not_or,or_false,List.nodup_nil,and_true] at ne
 obtain⟨⟨n1,n2,n3,n4,n5,n6⟩,⟨n7,n8,n9,n10,n11⟩,⟨n12,n13,n14,n15⟩,⟨n16,n17,n18⟩,⟨n19,n20⟩,n21,-⟩:=ne
 exact⟨n1,n2,n3,n4,n5,n6,n7,n8,n9,n10,n11,n12,n13,n14,n15,n16,n17,n18,n19,n20,n21⟩
theorem k216' (args:List AV)(s:St):callK U (calV U 216 args) 216 args s=cal U 216 args s:=(callK_eq U 216 args s).symm
theorem k217' (args:List AV)(s:St):callK U (calV U 217 args) 217 args s=cal U 217 args s:=(callK_eq U 217 args s).symm
theorem k214' (args:List AV)(s:St):callK U (calV U 214 args) 214 args s=cal U 214 args s:=(callK_eq U 214 args s).symm
def P216 (s0:St)(pb n bl bp bs bb be bm:Nat)(p:Pt)(v:Bool)(r:Option (AV×St)):Prop :=
 ∃s',r=some (.bool v,s')∧PtI s' pb n bl bp bs bb be bm p∧s0.next≤s'.next∧Fr s'∧∀j,j<s0.next→j≠bl→j≠bp→j≠bm→s'.get j=s0.get j
theorem c216 {s:St}{pb n bl bp bs bb be bm:Nat}{p:Pt}(h:PtI s pb n bl bp bs bb be bm p)(hw:p.Wf n)(hn:n≤2^20)(fr:Fr s){u:Nat}(hu:u<n) :
  P216 s pb n bl bp bs bb be bm (p.markd u).1 (p.markd u).2 (cal U 216 [.ptr pb 0,.int .i64 (u:Int)] s):=by
 suffices hgo:P216 s pb n bl bp bs bb be bm (p.markd u).1 (p.markd u).2 (go U (finB U [.tmp 4]) [] r216 (bindArgs 0 [.ptr pb 0,.int .i64 (u:Int)] .nil) s) by
  obtain⟨s',h1,h2⟩:=hgo
  exact⟨s',kept_go k216 (by kernel_rfl) h1,h2⟩
 obtain⟨hs1,hs2,hs3⟩:=hw.st u hu
 obtain⟨hk1,hk2,hk3⟩:=hw.sp _ hs1
 obtain⟨hp1,hp2⟩:=hw.pl u hu
 obtain⟨g,gl,gp,gs,gb,ge,gm,ne,lt⟩:=h
 have nd:=ne
 have A:=Ap.of nd
 clear ne
 have hll:=hw.ll;have hlp:=hw.lp;have hls:=hw.ls;have hle:=hw.le;have hlm:=hw.lm
 have q1:=nats_get (l:=p.set) (i:=u) (by omega)
 have q2:=nats_get (l:=p.place) (i:=u) (by omega)
 have hfew:=hw.few
 have lt':pb<s.next∧bl<s.next∧bp<s.next∧bs<s.next∧bb<s.next∧be<s.next∧bm<s.next:=by
  refine⟨lt _ (by simp),lt _ (by simp),lt _ (by simp),lt _ (by simp),lt _ (by simp),lt _ (by simp),lt _ (by simp)⟩
 obtain⟨lt1,lt2,lt3,lt4,lt5,lt6,lt7⟩:=lt'
 unfold Pt.markd
 generalize hs:gt p.set u=k at *
 generalize ha:gt p.place u=x at *
 have q3:=nats_get (l:=p.bg) (i:=k) hs1
 have q4:=nats_get (l:=p.mr) (i:=k) (by omega)
 have hbk:=hk1
 have w1:IntKind.i64.wrap (((gt p.bg k:Nat):Int)+((gt p.mr k:Nat):Int))=((gt p.bg k+gt p.mr k:Nat):Int):=by
  have:=hw.mr k hs1
  rw[wrap_i64] <;> omega
 have u1:u<p.set.length:=by omega
 have u2:u<p.place.length:=by omega
 have k2:k<p.mr.length:=by omega
 have hmk:=hw.mr k hs1
 generalize ht:gt p.bg k+gt p.mr k=t at *
 cases hm:decide (x<t) with
 |true =>
  have hmI:decide ((x:Int)<(t:Int))=true:=by rw[nat_lt_dec];exact hm
  simp (maxSteps:=2000000) +contextual only[go_sem,↓reduceIte,r216,g,gl,gp,gs,gb,gm,q1,q2,q3,q4,u1,u2,k2,hs1,w1,hmI,Nat.mul_one]
  exact⟨_,rfl,PtI.mono ⟨g,gl,gp,gs,gb,ge,gm,nd,lt⟩ (by rw[upto_next];omega) fun j _=>upto_get _ _ _,by rw[upto_next];omega,fr.upto (by omega),fun j _ _ _ _=>upto_get _ _ _⟩
 |false =>
  have hm':¬x<t:=by simpa using hm
  have htn:t<n:=by omega
  have hmI:decide ((x:Int)<(t:Int))=false:=by rw[nat_lt_dec];exact hm
  obtain⟨hl1,hl2⟩:=hw.li t htn
  have q5:=nats_get (l:=p.list) (i:=t) (by omega)
  generalize ho:gt p.list t=o at *
  have y1:=nats_lay (l:=p.list) (i:=x) o (by omega)
  have y2:=nats_lay (l:=p.list.set x o) (i:=t) u (by rw[List.length_set];omega)
  have y3:=nats_lay (l:=p.place) (i:=o) x (by omega)
  have y4:=nats_lay (l:=p.place.set o x) (i:=u) t (by rw[List.length_set];omega)
  have y5:=nats_lay (l:=p.mr) (i:=k) (gt p.mr k+1) (by omega)
  have q6:=nats_get (l:=p.mr.set k (gt p.mr k+1)) (i:=k) (by rw[List.length_set];omega)
  rw[gt_set,if_pos ⟨rfl,by omega⟩] at q6
  have w2:IntKind.i64.wrap (((gt p.mr k:Nat):Int)+1)=((gt p.mr k+1:Nat):Int):=by rw[wrap_i64] <;> omega
  have e1:(((gt p.mr k+1:Nat):Int)==1)=(gt p.mr k+1==1):=ieqN (gt p.mr k+1) 1
  have u3:x<p.list.length:=by omega
  have u4:t<p.list.length:=by omega
  have u5:o<p.place.length:=by omega
  have z1:(bl=pb)=False:=eq_false A.n1.symm
  have z2:(bl=bp)=False:=eq_false A.n7
  have z3:(bl=bm)=False:=eq_false A.n11
  have z4:(bp=pb)=False:=eq_false A.n2.symm
  have z5:(bp=bm)=False:=eq_false A.n15
  have z6:(bm=pb)=False:=eq_false A.n6.symm
  simp (maxSteps:=2000000) +contextual only[go_sem,↓reduceIte,r216,g,gl,gp,gs,gb,gm,q1,q2,q3,q4,q5,q6,u1,u2,u3,u4,u5,k2,hs1,w1,w2,hmI,Nat.mul_one,y1,y2,y3,y4,y5,z1,z2,z3,z4,z5,z6,e1]
  refine⟨_,rfl,⟨?_,?_,?_,?_,?_,?_,?_,nd,fun j hj=>?_⟩,?_,?_,fun j h1 h2 h3 h4=>?_⟩
  ·rw[get_put,if_neg A.n6.symm,get_put,if_neg A.n2.symm,get_put,if_neg A.n2.symm,upto_get,get_put,if_neg A.n1.symm,get_put,if_neg A.n1.symm,upto_get,upto_get,g]
   simp only[List.length_set]
  ·rw[get_put,if_neg A.n11.symm,get_put,if_neg A.n7.symm,get_put,if_neg A.n7.symm,upto_get,get_put,if_pos rfl]
  ·rw[get_put,if_neg A.n15.symm,get_put,if_pos rfl]
  ·rw[get_put,if_neg A.n18.symm,get_put,if_neg A.n12,get_put,if_neg A.n12,upto_get,get_put,if_neg A.n8,get_put,if_neg A.n8,upto_get,upto_get,gs]
  ·rw[get_put,if_neg A.n20.symm,get_put,if_neg A.n13,get_put,if_neg A.n13,upto_get,get_put,if_neg A.n9,get_put,if_neg A.n9,upto_get,upto_get,gb]
  ·rw[get_put,if_neg A.n21.symm,get_put,if_neg A.n14,get_put,if_neg A.n14,upto_get,get_put,if_neg A.n10,get_put,if_neg A.n10,upto_get,upto_get,ge]
  ·rw[get_put,if_pos rfl]
  ·simp only[next_put,upto_next]
   have:=lt j hj
   omega
  ·simp only[next_put,upto_next];omega
  ·exact (((((((fr.upto (by omega)).upto (by rw[upto_next];omega)).put (by rw[upto_next];omega) _).put (by rw[next_put,upto_next];omega) _).upto (by rw[next_put,next_put,upto_next];omega)).put (by rw[upto_next];omega) _).put (by rw[next_put,upto_next];omega) _).put (by rw[next_put,next_put,upto_next];omega) _
  ·rw[get_put,if_neg h4.symm,get_put,if_neg h3.symm,get_put,if_neg h3.symm,upto_get,get_put,if_neg h2.symm,get_put,if_neg h2.symm,upto_get,upto_get]
end Go.Am
namespace Go.Am
open Go
variable [MaxLen]
set_option maxRecDepth 100000
set_option maxHeartbeats 8000000
def r131:RC:=(.seq (.ops [o 4 (.mov (.v (.int .i64 0))),o 5 (.mov (.v .nili))]) (.seq (.ops [om 6 0,o 7 (.call 182 [(.t 6)])]) (.seq (.ops [om 8 0,om 9 0,o 10 (.raw (.nilCheck (.tmp 9))),o 11 (.fa 1 (.t 10)),o 12 (.ld1 (.t 11)),om 13 1,o 14 (.app 5 1 1 (.t 12) (.t 13)),o 15 (.raw (.nilCheck (.tmp 8))),o 16 (.fa 1 (.t 15)),oS (.st 1 (.t 16) (.t 14))]) (.seq (.ops [om 17 1,o 18 (.lenS (.t 17)),om 4 18,o 5 (.mov (.v .nili))]) .ret))))
theorem k131:fnRC 131=some ([.tmp 4,.tmp 5],r131):=by kernel_rfl
def r133:RC:=(.seq (.ops [o 2 (.mov (.v (.str [])))]) (.seq (.drw 12 [om 3 0,o 4 (.raw (.nilCheck (.tmp 3))),o 5 (.fa 1 (.t 4)),o 6 (.ld1 (.t 5)),o 7 (.raw (.call { callee:=.builtin .unsafeSliceData,args:=#[(.tmp 6)],argTypes:=#[205] })),om 8 0,o 9 (.raw (.nilCheck (.tmp 8))),o 10 (.fa 1 (.t 9)),o 11 (.ld1 (.t 10)),o 12 (.lenL (.t 11)),
 ⟨some 13,none,none,true,.raw (.call { callee:=.builtin .unsafeString,args:=#[(.tmp 7),(.tmp 12)],argTypes:=#[269,3] })⟩,om 2 13]) .ret))
theorem k133:fnRC 133=some ([.tmp 2],r133):=by kernel_rfl
def r244:RC:=(.seq (.ops [o 2 (.mov (.v (.str [])))]) (.seq (.ops [om 3 0,o 4 (.call 267 [(.t 3)]),om 2 4]) .ret))
theorem k244:fnRC 244=some ([.tmp 2],r244):=by kernel_rfl
def r267:RC:=(.seq (.ops [o 2 (.mov (.v (.str [])))]) (.seq (.seq (.ops [om 3 0]) (.cond (.t 3) (.seq (.ops [o 2 (.mov (.v (.str [116,114,117,101])))]) .ret) .skip)) (.seq (.ops [o 2 (.mov (.v (.str [102,97,108,115,101])))]) .ret)))
theorem k267:fnRC 267=some ([.tmp 2],r267):=by kernel_rfl
def bytesA (bs:Str):List AV:=bs.map fun c=>.int .u8 c.toNat
theorem bytesA_len (bs:Str):(bytesA bs).length=bs.length:=by simp[bytesA]
theorem bytesA_noAgg (bs:Str):(bytesA bs).all noAgg=true:=by
 induction bs with
 |nil=>rfl
 |cons c l ih=>rw[bytesA,List.map_cons,List.all_cons];exact ih
theorem bytesA_load (bs:Str):loadBytesA (bytesA bs)=some bs:=by
 induction bs with
 |nil=>rfl
 |cons c l ih =>
  show loadBytesA (.int .u8 c.toNat::bytesA l)=_
  simp only[loadBytesA,ih,Int.toNat_natCast,UInt8.ofNat_toNat]
def BldI (s:St)(b:Nat)(bs:Str):Prop:=∃p v,s.get b=some (.cells [p,v] 207 false 0 0)∧(p=.nilp∨p=.ptr b 0)∧b<s.next∧RowI s (b+1) 5 1 bs.length (bytesA bs) v
theorem k182 (args:List AV)(s:St):callK U (calV U 182 args) 182 args s=cal U 182 args s:=(callK_eq U 182 args s).symm
theorem k131' (args:List AV)(s:St):callK U (calV U 131 args) 131 args s=cal U 131 args s:=(callK_eq U 131 args s).symm
theorem k133' (args:List AV)(s:St):callK U (calV U 133 args) 133 args s=cal U 133 args s:=(callK_eq U 133 args s).symm
theorem cal_182 (args:List AV)(s:St):cal U 182 args s=extCopy args s:=by
 unfold cal callF
 rw[U_ext]
 rfl
theorem c182 {s:St}{b:Nat}{p v:AV}(hg:s.get b=some (.cells [p,v] 207 false 0 0))(hp:p=.nilp∨p=.ptr b 0)(hb:b<s.next) :
  ∃s0,cal U 182 [.ptr b 0] s=some (.tup [],s0)∧s0.next=s.next∧s0.get b=some (.cells [.ptr b 0,v] 207 false 0 0)∧(∀j,j≠b→s0.get j=s.get j)∧(Fr s→Fr s0):=by
 rw[cal_182]
 rcases hp with rfl|rfl
 ·refine⟨s.put b (.cells [.ptr b 0,v] 207 false 0 0),by simp only[extCopy,hg,if_true],rfl,by rw[get_put,if_pos rfl],fun j hj=>by rw[get_put,if_neg (by omega)],fun h=>h.put hb _⟩
 ·exact⟨s,by simp only[extCopy,hg,if_true],rfl,hg,fun _ _=>rfl,fun h=>h⟩
theorem source_bytes (t:Str)(s:St):sourceA 1 (.str t) s=some (t.length,bytesA t):=rfl
theorem c131 {s:St}{b:Nat}{bs:Str}(h:BldI s b bs)(hf:Fr s)(t:Str)(ht:t≠[])(hlen:bs.length+t.length≤2^39) :
  ∃s' r,cal U 131 [.ptr b 0,.str t] s=some (r,s')∧BldI s' b (bs++t)∧Fr s'∧s.next≤s'.next∧∀j,j<b→s'.get j=s.get j:=by
 obtain⟨p,v,hg,hp,hb,hv⟩:=h
 obtain⟨s0,g1,g2,g3,g4,g5⟩:=c182 hg hp hb
 have hla:=hv.lenA
 have hb1:(bs.length+t.length)*1≤1099511627776:=by omega
 have hb2:bs.length+t.length≤1099511627776:=by omega
 have ht0:(t.length=0)=False:=by simp[ht]
 have hv1:RowI s0 (b+1) 5 1 bs.length (bytesA bs) v:=hv.mono (by omega) fun j hj hj'=>g4 j (by omega)
 obtain⟨s1,e1,e2,e3,e4,e5⟩:=hv1.app (by omega) (m:=t.length) (new:=bytesA t) (by intro h0;simp[ht] at h0) (by rw[bytesA_len];omega) (bytesA_noAgg t)
 have kb:=e4 b (by omega)
 rw[g3] at kb
 rw[g2] at e1 e2 e3
 refine⟨s1.put b (.cells [.ptr b 0,.sl s.next 0 (bs.length+t.length) none 1] 207 false 0 0),.tup [.int .i64 t.length,.nili],?_,⟨.ptr b 0,.sl s.next 0 (bs.length+t.length) none 1,by rw[get_put,if_pos rfl],.inr rfl,by rw[next_put];omega,?_⟩,(e5 (g5 hf)).put (by omega) _,by rw[next_put];omega,fun j hj=>?_⟩
 ·refine kept_go k131 (by kernel_rfl) ?_
  simp +contextual only[go_sem,↓reduceIte,r131,k182,g1,g2,g3,source_bytes,Nat.add_eq_left,appK_some,hla,hb1,hb2,Nat.reducePow,bytesA_len,ht0,Nat.mul_one,not_false_eq_true]
  rw[e1]
  simp +contextual only[go_sem,↓reduceIte,kb]
 ·have hl:(bs++t).length=bs.length+t.length:=by simp
  rw[hl]
  have hbb:bytesA (bs++t)=bytesA bs++bytesA t:=by simp[bytesA]
  rw[hbb]
  exact e3.mono (by rw[next_put];omega) fun j hj _=>by rw[get_put,if_neg (by omega)]
 ·rw[get_put,if_neg (by omega),e4 j (by omega),g4 j (by omega)]
def sdK (v:Option AV)(s:St):Option (AV×St):=match v with
 |some .nils=>some (.nilp,s)
 |some (.sl b o (_+1) _ _)=>some (.ptr b o,s)
 |_=>none
theorem opA_sd (ex:Ex)(e:Env)(s:St)(x:Operand)(ts:Array TypeId):opA U ex e (.call { callee:=.builtin .unsafeSliceData,args:=#[x],argTypes:=ts }) s=sdK (eval U e x) s:=by
 have h:opA U ex e (.call { callee:=.builtin .unsafeSliceData,args:=#[x],argTypes:=ts }) s=match evals U e [x] with
  |some vs=>builtinA U .unsafeSliceData ts vs s
  |none=>none:=rfl
 rw[h]
 simp only[evals]
 cases eval U e x with
 |none=>rfl
 |some v =>
  cases v <;> try rfl
  rename_i b o n c z
  cases n <;> rfl
noncomputable def usK (ts:Array TypeId)(p n:Option AV)(s:St):Option (AV×St):=match p,n with
 |some p,some n=>builtinA U .unsafeString ts [p,n] s
 |_,_=>none
theorem opA_us (ex:Ex)(e:Env)(s:St)(x y:Operand)(ts:Array TypeId):opA U ex e (.call { callee:=.builtin .unsafeString,args:=#[x,y],argTypes:=ts }) s=usK ts (eval U e x) (eval U e y) s:=by
 have h:opA U ex e (.call { callee:=.builtin .unsafeString,args:=#[x,y],argTypes:=ts }) s=match evals U e [x,y] with
  |some vs=>builtinA U .unsafeString ts vs s
  |none=>none:=rfl
 rw[h]
 simp only[evals]
 cases eval U e x with
 |none=>rfl
 |some v=>cases eval U e y <;> rfl
theorem sdK_nils (s:St):sdK (some .nils) s=some (.nilp,s):=rfl
theorem sdK_sl (b o n:Nat)(c:Option Nat)(z:Nat)(s:St):sdK (some (.sl b o (n+1) c z)) s=some (.ptr b o,s):=rfl
theorem usK_some (ts:Array TypeId)(p n:AV)(s:St):usK ts (some p) (some n) s=builtinA U .unsafeString ts [p,n] s:=rfl
theorem us_nil (s:St):builtinA U .unsafeString #[269,3] [.nilp,.int .i64 0] s=some (.str [],s):=rfl
theorem us_ptr {s:St}{j:Nat}{bs:Str}{lo hi:Nat}(hg:s.get j=some (.cells (bytesA bs) 5 false lo hi))(h0:bs≠[])(hl:bs.length≤2^39):builtinA U .unsafeString #[269,3] [.ptr j 0,.int .i64 bs.length] s=some (.str bs,s.put j (.cells (bytesA bs) 5 true 0 0)):=by
 have hu:U.und 269=some (.pointer 5):=by kernel_rfl
 have hne:¬(bs.length:Int)=0:=by
  have:=List.length_pos_iff.2 h0;omega
 have hb:¬((bs.length:Int)<0∨(bs.length:Int)>2^40):=by omega
 unfold builtinA
 simp only[if_neg hne,if_neg hb,hg]
 have hgr:grab bs.length 0 (bytesA bs)=some (bytesA bs):=by
  have:=grab_all (bytesA bs)
  rwa [bytesA_len] at this
 simp[hu,sz_5,hgr,bytesA_load]
attribute [go_sem ↓] opA_sd opA_us
attribute [go_sem] sdK_nils sdK_sl usK_some us_nil
theorem c133V {s:St}{b:Nat}{bs:Str}(h:BldI s b bs)(hf:Fr s)(hl:bs.length≤2^39):∃s',cal U 133 [.ptr b 0] s=some (.str bs,s')∧s.next≤s'.next∧Fr s'∧∀j,j≤b→s'.get j=s.get j:=by
 obtain⟨p,v,hg,hp,hb,hv⟩:=h
 rcases hv with⟨h0,rfl,h2⟩|⟨h0,h1,j,h2,h3,rfl,h5⟩
 ·have:bs=[]:=List.length_eq_zero_iff.1 h0
  subst this
  refine⟨s.upto (s.next+12),kept_go k133 (by kernel_rfl) ?_,by rw[upto_next];omega,hf.upto (by omega),fun j _=>upto_get _ _ _⟩
  simp +contextual only[go_sem,↓reduceIte,r133,hg]
 ·have hne:bs≠[]:=by rintro rfl;simp at h0
  have hus:=us_ptr (s:=s.upto (s.next+12)) (bs:=bs) (j:=j) (by rw[upto_get];exact h5) hne hl
  obtain⟨n,hn⟩:∃n,bs.length=n+1:=⟨bs.length-1,by omega⟩
  refine⟨(s.upto (s.next+12)).put j (.cells (bytesA bs) 5 true 0 0),kept_go k133 (by kernel_rfl) ?_,by rw[next_put,upto_next];omega,(hf.upto (by omega)).put (by rw[upto_next];omega) _,fun i hi=>by rw[get_put,if_neg (by omega),upto_get]⟩
  rw[hn] at hg hus
  simp +contextual only[go_sem,↓reduceIte,r133,hg,hus]
def fbS:Bool→Str
 |true=>[116,114,117,101]
 |false=>[102,97,108,115,101]
theorem c267 (x:Bool):calV U 267 [.bool x]=some (.str (fbS x)):=by
 refine pure_go k267 (by kernel_rfl) rfl ?_
 cases x <;> simp +contextual only[go_sem,↓reduceIte,r267,fbS]
theorem c244 (x:Bool):calV U 244 [.bool x]=some (.str (fbS x)):=by
 refine pure_go k244 (by kernel_rfl) rfl ?_
 have:=c267 x
 simp +contextual only[go_sem,↓reduceIte,r244,this]
def keyS (l:List Bool):Str:=l.flatMap fbS
theorem fbS_ne (x:Bool):fbS x≠[]:=by cases x <;> simp[fbS]
theorem keyS_inj:∀{a b:List Bool},a.length=b.length→keyS a=keyS b→a=b
 |[],[],_,_=>rfl
 |x::a,y::b,hl,h=>by
  have hl':a.length=b.length:=by simpa using hl
  simp only[keyS,List.flatMap_cons] at h
  cases x <;> cases y <;> simp only[fbS,List.cons_append,List.nil_append,List.cons.injEq] at h
  ·rw[keyS_inj hl' h.2.2.2.2.2]
  ·exact absurd h.1 (by decide)
  ·exact absurd h.1 (by decide)
  ·rw[keyS_inj hl' h.2.2.2.2]
 |[],_::_,h,_=>by simp at h
 |_::_,[],h,_=>by simp at h
def ent (es:List (Str×AV)):List (AV×AV):=es.map fun x=>(AV.str x.1,x.2)
def getE (k:Str):List (Str×AV)→Option AV
 |[]=>none
 |x::l=>bif k==x.1 then some x.2 else getE k l
def putE (k:Str)(v:AV):List (Str×AV)→List (Str×AV)
 |[]=>[(k,v)]
 |x::l=>bif k==x.1 then (k,v)::l else x::putE k v l
theorem findA_ent (k:Str):∀es,findA (.str k) (ent es)=some (getE k es)
 |[]=>rfl
 |x::l=>by
  have ih:=findA_ent k l
  show findA (.str k) ((AV.str x.1,x.2)::ent l)=_
  rw[findA,getE,keyEq]
  cases k==x.1 with
  |true=>rfl
  |false=>exact ih
theorem putA_ent (k:Str)(v:AV):∀es,putA (.str k) v (ent es)=some (ent (putE k v es))
 |[]=>rfl
 |x::l=>by
  have ih:=putA_ent k v l
  show putA (.str k) v ((AV.str x.1,x.2)::ent l)=_
  rw[putA,putE,keyEq]
  cases k==x.1 with
  |true=>rfl
  |false=>simp only[ih];rfl
theorem lookup310 {s:St}{m:Nat}{es:List (Str×AV)}(h:s.get m=some (.map (ent es) false))(k:Str):lookupA U 310 (.map m) (.str k) false s=some ((getE k es).getD .nils):=by
 have hu:U.und 310=some (.map 9 40):=by kernel_rfl
 have h9:U.und 9=some .string:=by kernel_rfl
 have hz:zero U 40=some .nils:=by kernel_rfl
 unfold lookupA
 rw[hu]
 simp only[keyOk,h9,if_true,h,findA_ent]
 cases getE k es with
 |none=>simp only[hz];rfl
 |some v=>rfl
theorem update310 {s:St}{m:Nat}{es:List (Str×AV)}(h:s.get m=some (.map (ent es) false))(k:Str)(v:AV):updateA U 310 (.map m) (.str k) v s=some (s.put m (.map (ent (putE k v es)) false)):=by
 have hu:U.und 310=some (.map 9 40):=by kernel_rfl
 have h9:U.und 9=some .string:=by kernel_rfl
 unfold updateA
 rw[hu]
 simp only[keyOk,h9,if_true,h,putA_ent]
noncomputable def updK (t:TypeId)(m k v:Option AV)(s:St):Option (AV×St):=match m,k,v with
 |some m,some k,some v=>unitO (updateA U t m k v s)
 |_,_,_=>none
theorem opA_mapUpdate (ex:Ex)(e:Env)(s:St)(t:TypeId)(m k v:Operand):opA U ex e (.mapUpdate t m k v) s=updK t (eval U e m) (eval U e k) (eval U e v) s:=by
 unfold updK
 simp only[opA]
 rfl
theorem opA_insertM (ex:Ex)(e:Env)(s:St)(t:TypeId)(m k v:Operand):opA U ex e (.insert t m k v) s=updK t (eval U e m) (eval U e k) (eval U e v) s:=by
 unfold updK
 simp only[opA]
 rfl
theorem updK_some (t:TypeId)(m k v:AV)(s:St):updK t (some m) (some k) (some v) s=unitO (updateA U t m k v s):=(fun h=>h) rfl
theorem opA_makeMap (ex:Ex)(e:Env)(s:St)(t:TypeId):opA U ex e (.makeMap t none) s=some (.map s.next,s.new (.map [] false)):=(fun h=>h) rfl
attribute [go_sem ↓] opA_mapUpdate opA_insertM opA_makeMap
attribute [go_sem] updK_some
def esOf (len:Str→Nat):List Str→List Nat→List (Str×AV)
 |k::ks,b::bs=>(k,.sl b 0 (len k) none 1)::esOf len ks bs
 |_,_=>[]
theorem getE_at {len:Str→Nat}:∀{ks:List Str} {bs:List Nat} {j:Nat} (hn:ks.Nodup) (hl:bs.length=ks.length) (h:j<ks.length),getE ks[j] (esOf len ks bs)=some (.sl (bs[j]'(by omega)) 0 (len ks[j]) none 1)
 |k::ks,b::bs,0,hn,hl,h=>by simp[esOf,getE]
 |k::ks,b::bs,j+1,hn,hl,h=>by
  rw[List.nodup_cons] at hn
  have hj:j<ks.length:=by simpa using h
  have ih:=getE_at (len:=len) (bs:=bs) hn.2 (by simpa using hl) hj
  have hne:(ks[j]==k)=false:=by
   have:ks[j]≠k:=fun e=>hn.1 (e ▸ List.getElem_mem hj)
   simpa using this
  simp only[List.getElem_cons_succ,esOf,getE,hne,cond_false]
  exact ih
 |k::ks,[],_,_,hl,_=>by simp at hl
 |[],_,_,_,_,h=>by simp at h
theorem getE_none {len:Str→Nat}{k:Str}:∀{ks:List Str} {bs:List Nat},k∉ks→getE k (esOf len ks bs)=none
 |[],bs,_=>by cases bs <;> rfl
 |x::ks,[],_=>rfl
 |x::ks,b::bs,h=>by
  rw[List.mem_cons,not_or] at h
  have hne:(k==x)=false:=by simpa using h.1
  simp only[esOf,getE,hne,cond_false]
  exact getE_none h.2
theorem esOf_congr {len len':Str→Nat}:∀{ks:List Str} {bs:List Nat},(∀k∈ks,len k=len' k)→esOf len ks bs=esOf len' ks bs
 |[],bs,_=>by cases bs <;> rfl
 |x::ks,[],_=>rfl
 |x::ks,b::bs,h=>by
  simp only[esOf]
  rw[h x (List.mem_cons_self ..),esOf_congr fun k hk=>h k (List.mem_cons_of_mem _ hk)]
theorem putE_at {len len':Str→Nat}:∀{ks:List Str} {bs:List Nat} {j b':Nat} (hn:ks.Nodup) (hl:bs.length=ks.length) (h:j<ks.length),(∀k∈ks,k≠ks[j]→len k=len' k)→putE ks[j] (.sl b' 0 (len' ks[j]) none 1) (esOf len ks bs)=esOf len' ks (bs.set j b')
 |k::ks,b::bs,0,b',hn,hl,h,hc=>by
  rw[List.nodup_cons] at hn
  simp only[List.getElem_cons_zero,esOf,putE,beq_self_eq_true,cond_true,List.set_cons_zero]
  rw[esOf_congr fun x hx=>hc x (List.mem_cons_of_mem _ hx) fun e=>by simp at e;exact hn.1 (e ▸ hx)]
 |k::ks,b::bs,j+1,b',hn,hl,h,hc=>by
  rw[List.nodup_cons] at hn
  have hj:j<ks.length:=by simpa using h
  have hkne:k≠ks[j]:=fun e=>hn.1 (e ▸ List.getElem_mem hj)
  have hne:(ks[j]==k)=false:=by simpa using hkne.symm
  have ih:=putE_at (len:=len) (len':=len') (bs:=bs) (b':=b') hn.2 (by simpa using hl) hj fun x hx hxe=>hc x (List.mem_cons_of_mem _ hx) (by simpa using hxe)
  simp only[List.getElem_cons_succ,esOf,putE,hne,cond_false,List.set_cons_succ]
  rw[ih,hc k (List.mem_cons_self ..) (by simpa using hkne)]
 |k::ks,[],_,_,_,hl,_,_=>by simp at hl
 |[],_,_,_,_,_,h,_=>by simp at h
theorem putE_new {len len':Str→Nat}{k:Str}{b':Nat}:∀{ks:List Str} {bs:List Nat},k∉ks→bs.length=ks.length→(∀x∈ks,len x=len' x)→putE k (.sl b' 0 (len' k) none 1) (esOf len ks bs)=esOf len' (ks++[k]) (bs++[b'])
 |[],[],_,_,_=>by simp[esOf,putE]
 |x::ks,b::bs,h,hl,hc=>by
  rw[List.mem_cons,not_or] at h
  have hne:(k==x)=false:=by simpa using h.1
  have ih:=putE_new (len:=len) (len':=len') (b':=b') (bs:=bs) h.2 (by simpa using hl) fun y hy=>hc y (List.mem_cons_of_mem _ hy)
  simp only[esOf,putE,hne,cond_false,List.cons_append]
  rw[ih,hc x (List.mem_cons_self ..)]
 |[],_::_,_,hl,_=>by simp at hl
 |_::_,[],_,hl,_=>by simp at hl
theorem l214a {β:Type}{fin:Fl→β}{ks:List K}{Post:β→Prop}{nl:Bool}{l:List Bool}(hl:l.length≤2^20){b:Nat}{e:Env}{s:St}(g8:Env.get e 8=.ptr b 0)(g35:Env.get e 35=encS nl (bools l))(g36:Env.get e 36=.int .i64 l.length)(g37:Env.get e 37=.int .i64 (0:Nat))
  (hb:BldI s b [])(fr:Fr s)
  (hk:∀e' s',(∀t:Nat,t<10→Env.get e' t=Env.get e t)→(∀t:Nat,26<t→t<35→Env.get e' t=Env.get e t)→BldI s' b (keyS l)→(∀j,j<b→s'.get j=s.get j)→s.next≤s'.next→Fr s'→Post (goN U fin ks e' s')) :
  Post (goL U fin (.bk 2::ks) r214_l0 e s):=by
 have hklen:∀l:List Bool,(keyS l).length≤l.length*5:=by
  intro l
  induction l with
  |nil=>simp[keyS]
  |cons x l ih =>
   have:(keyS (x::l)).length=(fbS x).length+(keyS l).length:=by simp[keyS]
   have h5:(fbS x).length≤5:=by cases x <;> simp[fbS]
   simp only[List.length_cons];omega
 refine loop_ex (σ:=Nat) (fun i=>l.length-i) (fun i e' s'=>i≤l.length∧(∀t:Nat,t<10→Env.get e' t=Env.get e t)∧(∀t:Nat,26<t→t<37→Env.get e' t=Env.get e t)∧Env.get e' 37=.int .i64 (i:Nat)∧BldI s' b (keyS (l.take i))∧(∀j,j<b→s'.get j=s.get j)∧s.next≤s'.next∧Fr s') 0 ?_
  ⟨Nat.zero_le _,fun _ _=>rfl,fun _ _ _=>rfl,g37,hb,fun _ _=>rfl,Nat.le_refl _,fr⟩
 rintro Lp i e' s' ⟨hi,hold,hold2,q37,hbi,hs,hnx,fr'⟩ IH
 have q8:=(hold 8 (by omega)).trans g8
 have q35:=(hold2 35 (by omega) (by omega)).trans g35
 have q36:=(hold2 36 (by omega) (by omega)).trans g36
 by_cases hd:i<l.length
 ·have hw:=wrap_succ hd (by omega)
  have hx:=ixa_boolV (nl:=nl) hd
  have h244:=c244 l[i]
  have hk1:=hklen (l.take i)
  have htl:(l.take i).length=i:=by rw[List.length_take];omega
  have h5:(fbS l[i]).length≤5:=by cases l[i] <;> simp[fbS]
  obtain⟨s2,r,e1,e2,e3,e4,e5⟩:=c131 hbi fr' (fbS l[i]) (fbS_ne _) (by omega)
  simp (maxSteps:=2000000) +contextual only[go_sem,↓reduceIte,r214_l0,q8,q35,q36,q37,nat_lt_dec,hd,hx,h244,k131',e1,hw]
  have hkk:keyS (l.take (i+1))=keyS (l.take i)++fbS l[i]:=by rw[List.take_succ_eq_append_getElem hd,keyS,List.flatMap_append];simp[keyS]
  refine IH (i+1) _ _ (by omega) ⟨by omega,fun t ht=>?_,fun t h1 h2=>?_,?_,by rw[hkk];exact e2,fun j hj=>by rw[e5 j hj,hs j hj],by omega,e3⟩
  ·have hne:∀k:Nat,10≤k→(k=t)=False:=fun k hk=>by simp;omega
   simp +contextual only[go_sem,↓reduceIte,hne]
   exact hold t ht
  ·have hne:∀k:Nat,37≤k→(k=t)=False:=fun k hk=>by simp;omega
   have hne10:(10=t)=False:=by simp;omega
   simp +contextual only[go_sem,↓reduceIte,hne,hne10]
   exact hold2 t h1 h2
  ·simp +contextual only[go_sem,↓reduceIte]
 ·have:i=l.length:=by omega
  subst this
  rw[List.take_length] at hbi
  simp (maxSteps:=2000000) +contextual only[go_sem,↓reduceIte,r214_l0,q36,q37,nat_lt_dec,Nat.lt_irrefl]
  refine hk _ _ (fun t ht=>?_) (fun t h1 h2=>?_) hbi hs hnx fr'
  ·have hne:∀k:Nat,10≤k→(k=t)=False:=fun k hk=>by simp;omega
   simp +contextual only[go_sem,↓reduceIte,hne]
   exact hold t ht
  ·have hne:∀k:Nat,37≤k→(k=t)=False:=fun k hk=>by simp;omega
   simp +contextual only[go_sem,↓reduceIte,hne]
   exact hold2 t h1 (by omega)
theorem appX' {s:St}{b n:Nat}{L:List Nat}(hL:L.length=n)(hg:s.get b=some (.cells (nats L) 3 false 0 0))(k:Nat) :
  appD 3 1 1 [.int .i64 (k:Int)] (.sl b 0 n none 1) s=some (.sl s.next 0 (n+1) none 1,(s.put b .gone).new (.cells (nats (L++[k])) 3 false 0 0)):=by
 have hcs:(nats L).length=n*1:=by rw[nats_len,hL,Nat.mul_one]
 rw[appD_sl,hg,appS_cells hcs (by omega) rfl,nats_app]
def strs (l:List Str):List AV:=l.map .str
def kapA (a:Auto)(u:Nat):Str:=keyS (a.fires.getD u (true,[])).2
structure Grp (s:St)(m:Nat)(κ:Nat→Str)(i:Nat)(bl:List Nat)(vo:AV):Prop where
 gm:s.get m=some (.map (ent (esOf (fun k=>(grp κ k i).length) (ordK κ i) bl)) false)
 len:bl.length=(ordK κ i).length
 nd:bl.Nodup
 blk:∀j (h:j<bl.length) (h':j<(ordK κ i).length),m<bl[j]∧bl[j]<s.next∧s.get bl[j]=some (.cells (nats (grp κ (ordK κ i)[j] i)) 3 false 0 0)
 row:RowI s (m+1) 9 1 (ordK κ i).length (strs (ordK κ i)) vo
theorem grp_len (κ:Nat→Str)(k:Str)(n:Nat):(grp κ k n).length≤n:=by
 have:=List.length_filter_le (fun i=>decide (κ i=k)) (List.range n)
 rw[List.length_range] at this
 exact this
theorem set_nodup {b:Nat}:∀{l:List Nat} {j:Nat},l.Nodup→b∉l→(l.set j b).Nodup
 |[],j,_,_=>by simp
 |x::l,0,h,hb=>by
  rw[List.nodup_cons] at h
  rw[List.set_cons_zero,List.nodup_cons]
  exact⟨fun hm=>hb (List.mem_cons_of_mem _ hm),h.2⟩
 |x::l,j+1,h,hb=>by
  rw[List.nodup_cons] at h
  rw[List.mem_cons,not_or] at hb
  rw[List.set_cons_succ,List.nodup_cons]
  refine⟨fun hm=>?_,set_nodup h.2 hb.2⟩
  rcases List.mem_or_eq_of_mem_set hm with h1|h1
  ·exact h.1 h1
  ·exact hb.1 h1.symm
theorem l214b {β:Type}{fin:Fl→β}{ks:List K}{Post:β→Prop}{a:Auto}(ha:a.ok){m:Nat}{e:Env}{s:St}(g4:Env.get e 4=.map m)(g5:Env.get e 5=.nils)(g28:Env.get e 28=encS a.fNl (a.fires.map encFRow))(g29:Env.get e 29=.int .i64 a.fires.length)(g30:Env.get e 30=.int .i64 (0:Nat))
  (gm:s.get m=some (.map [] false))(nm:m<s.next)(fr:Fr s)
  (hk:∀e' s' bl vo,(∀t:Nat,t<5→Env.get e' t=Env.get e t)→Env.get e' 5=vo→Grp s' m (kapA a) a.next.length bl vo→(∀j,j<m→s'.get j=s.get j)→s.next≤s'.next→Fr s'→Post (goN U fin ks e' s')) :
  Post (goL U fin (.bk 0::ks) r214_l1 e s):=by
 have hfew:=ha.few
 have hfl:=ha.fl
 refine loop_ex (σ:=Nat) (fun i=>a.fires.length-i) (fun i e' s'=>i≤a.fires.length∧(∀t:Nat,t<5→Env.get e' t=Env.get e t)∧Env.get e' 28=encS a.fNl (a.fires.map encFRow)∧Env.get e' 29=.int .i64 a.fires.length∧Env.get e' 30=.int .i64 (i:Nat)∧(∀j,j<m→s'.get j=s.get j)∧s.next≤s'.next∧Fr s' ∧
   ∃bl vo,Env.get e' 5=vo∧Grp s' m (kapA a) i bl vo) 0 ?_
  ⟨Nat.zero_le _,fun _ _=>rfl,g28,g29,g30,fun _ _=>rfl,Nat.le_refl _,fr,[],.nils,g5,⟨by rw[gm];rfl,rfl,by simp,fun j h=>by simp at h,RowI.nil _ _ _ _⟩⟩
 rintro Lp i e' s' ⟨hi,hold,q28,q29,q30,hs,hnx,fr',bl,vo,q5,G⟩ IH
 have q4:=(hold 4 (by omega)).trans g4
 by_cases hd:i<a.fires.length
 ·have hwr:=wrap_succ hd (by omega)
  have hx:=ixa_rowB (nl:=a.fNl) hd
  have hrl:=ha.frow i hd
  have hm16:=ha.m16
  have hla:=lenL_encS a.fires[i].1 (bools a.fires[i].2)
  rw[bools_len] at hla
  have hκ:kapA a i=keyS a.fires[i].2:=by unfold kapA;rw[getD_at hd]
  simp (maxSteps:=2000000) +contextual only[go_sem,↓reduceIte,r214_l1,q4,q28,q29,q30,nat_lt_dec,hd,hx,hla]
  refine l214a (nl:=a.fires[i].1) (l:=a.fires[i].2) (b:=s'.next) (by omega) ?_ ?_ ?_ ?_ ?_ ?_ ?_
  case refine_7 =>
   intro e2 s2 h2a h2b hbi hs2 hnx2 fr2
   rw[←hκ] at hbi
   have hkl:(kapA a i).length≤2^39:=by
    have:∀l:List Bool,(keyS l).length≤l.length*5:=by
     intro l
     induction l with
     |nil=>simp[keyS]
     |cons x l ih =>
      have:(keyS (x::l)).length=(fbS x).length+(keyS l).length:=by simp[keyS]
      have h5:(fbS x).length≤5:=by cases x <;> simp[fbS]
      simp only[List.length_cons];omega
    have:=this a.fires[i].2
    rw[hκ];omega
   obtain⟨s3,c1,c2,c3,c4⟩:=c133V hbi fr2 hkl
   rw[next_new] at hnx2
   have old:∀j,j<s'.next→s3.get j=s'.get j:=fun j hj=>by rw[c4 j (by omega),hs2 j hj,get_new,if_neg (by omega)]
   have p4:Env.get e2 4=.map m:=by rw[h2a 4 (by omega)];simp +contextual only[go_sem,↓reduceIte,q4]
   have p5:Env.get e2 5=vo:=by rw[h2a 5 (by omega)];simp +contextual only[go_sem,↓reduceIte,q5]
   have p6:Env.get e2 6=.int .i64 (i:Nat):=by rw[h2a 6 (by omega)];simp +contextual only[go_sem,↓reduceIte]
   have p8:Env.get e2 8=.ptr s'.next 0:=by rw[h2a 8 (by omega)];simp +contextual only[go_sem,↓reduceIte]
   have p28:Env.get e2 28=encS a.fNl (a.fires.map encFRow):=by rw[h2b 28 (by omega) (by omega)];simp +contextual only[go_sem,↓reduceIte,q28]
   have p29:Env.get e2 29=.int .i64 a.fires.length:=by rw[h2b 29 (by omega) (by omega)];simp +contextual only[go_sem,↓reduceIte,q29]
   have p30:Env.get e2 30=.int .i64 (i:Nat):=by rw[h2b 30 (by omega) (by omega)];simp +contextual only[go_sem,↓reduceIte,q30]
   have pl:∀t:Nat,t<5→Env.get e2 t=Env.get e t:=fun t ht=>by
    rw[h2a t (by omega)]
    have hne:∀k:Nat,6≤k→(k=t)=False:=fun k hk=>by simp;omega
    simp +contextual only[go_sem,↓reduceIte,hne]
    exact hold t ht
   obtain⟨Gm,Glen,Gnd,Gblk,Grow⟩:=G
   have nm':m<s'.next:=by omega
   have um:=(old m nm').trans Gm
   have hgl:=grp_len (kapA a) (kapA a i) i
   have lk:=fun (S:St) (h:S.get m=some (.map (ent (esOf (fun k=>(grp (kapA a) k i).length) (ordK (kapA a) i) bl)) false))=>lookup310 h (kapA a i)
   have up:=fun (S:St) (v:AV) (h:S.get m=some (.map (ent (esOf (fun k=>(grp (kapA a) k i).length) (ordK (kapA a) i) bl)) false))=>update310 h (kapA a i) v
   have gsucc:grp (kapA a) (kapA a i) (i+1)=grp (kapA a) (kapA a i) i++[i]:=by rw[grp_succ,if_pos rfl]
   by_cases hin:kapA a i∈ordK (kapA a) i
   ·obtain⟨j,hj,hje⟩:=List.mem_iff_getElem.1 hin
    have hjb:j<bl.length:=by omega
    obtain⟨b1,b2,b3⟩:=Gblk j hjb hj
    rw[hje] at b3
    have hge:=getE_at (len:=fun k=>(grp (kapA a) k i).length) (bs:=bl) (ordK_nd (kapA a) i) Glen hj
    rw[hje] at hge
    have hpos:0<(grp (kapA a) (kapA a i) i).length:=by
     obtain⟨u,hu1,hu2⟩:=(ordK_mem (kapA a) (kapA a i) i).1 hin
     exact List.length_pos_of_mem ((grp_mem _ _ _ _).2 ⟨hu1,hu2⟩)
    rw[hge] at lk
    simp only[Option.getD_some] at lk
    have hz:(((grp (kapA a) (kapA a i) i).length:Int)==0)=false:=by simp;intro e;rw[e] at hpos;simp at hpos
    have u3:=(old _ b2).trans b3
    have ax:=fun (S:St) (h:S.get bl[j]=some (.cells (nats (grp (kapA a) (kapA a i) i)) 3 false 0 0))=>appX' rfl h i
    have hb1:((grp (kapA a) (kapA a i) i).length+1)*8≤1099511627776:=by omega
    have hb2:(grp (kapA a) (kapA a i) i).length+1≤1099511627776:=by omega
    have z1:(s3.next=m)=False:=by simp;omega
    have z2:(s3.next+1=m)=False:=by simp;omega
    have z3:(bl[j]=m)=False:=by simp;omega
    have z4:(s3.next=bl[j])=False:=by simp;omega
    simp (maxSteps:=2000000) +contextual only[go_sem,↓reduceIte,p4,p6,p8,p30,k133',c1,um,lk,up,hz,u3,ax,appK_some,Nat.reducePow,Nat.one_mul,hb1,hb2,z1,z2,z3,z4,hwr]
    have hord:ordK (kapA a) (i+1)=ordK (kapA a) i:=by rw[ordK,if_pos hin]
    have hget:∀x y z k,k<s3.next→k≠m→k≠bl[j]→((((s3.new x).put bl[j] y).new z).put m (.map (ent (esOf (fun k=>(grp (kapA a) k (i+1)).length) (ordK (kapA a) i) (bl.set j (s3.next+1)))) false)).get k=s3.get k:=fun x y z k h1 h2 h3=>by
     rw[get_put,if_neg h2.symm,get_new,next_put,next_new,if_neg (by omega),get_put,if_neg h3.symm,get_new,if_neg (by omega)]
    have hput:=putE_at (len:=fun k=>(grp (kapA a) k i).length) (len':=fun k=>(grp (kapA a) k (i+1)).length) (bs:=bl) (b':=s3.next+1) (ordK_nd (kapA a) i) Glen hj (fun k _ hke=>by
     rw[hje] at hke
     simp only[grp_succ,if_neg (fun e=>hke (Eq.symm e))])
    rw[hje] at hput
    simp only[gsucc,List.length_append,List.length_singleton] at hput
    rw[hput]
    have lbl:∀x∈bl,x<s'.next:=fun x hx=>by
     obtain⟨k,hk1,rfl⟩:=List.mem_iff_getElem.1 hx
     exact (Gblk k hk1 (by omega)).2.1
    refine IH (i+1) _ _ (by omega) ⟨by omega,fun t ht=>?_,?_,?_,?_,fun k hk=>?_,by simp only[next_put,next_new];omega,(((c3.new _).put (by rw[next_new];omega) _).new _).put (by rw[next_new,next_put,next_new];omega) _,bl.set j (s3.next+1),vo,?_,⟨?_,?_,?_,fun k h h'=>?_,?_⟩⟩
    ·have hne:∀k:Nat,6≤k→(k=t)=False:=fun k hk=>by simp;omega
     simp +contextual only[go_sem,↓reduceIte,hne]
     exact pl t ht
    ·simp +contextual only[go_sem,↓reduceIte,p28]
    ·simp +contextual only[go_sem,↓reduceIte,p29]
    ·simp +contextual only[go_sem,↓reduceIte]
    ·rw[hget _ _ _ k (by omega) (by omega) (by omega),old k (by omega),hs k hk]
    ·simp +contextual only[go_sem,↓reduceIte,p5]
    ·rw[get_put,if_pos rfl,hord]
    ·rw[List.length_set,hord];exact Glen
    ·exact set_nodup Gnd fun hm=>by have:=lbl _ hm;omega
    ·rw[List.length_set] at h
     have h'':k<(ordK (kapA a) i).length:=by rw[←hord];exact h'
     have hko:(ordK (kapA a) (i+1))[k]=(ordK (kapA a) i)[k]:=by simp only[hord]
     rw[hko]
     by_cases hkj:k=j
     ·subst hkj
      rw[List.getElem_set_self,hje,gsucc]
      refine⟨by omega,by simp only[next_put,next_new];omega,?_⟩
      rw[get_put,if_neg (by omega),get_new,next_put,next_new,if_pos rfl]
     ·rw[List.getElem_set_ne (fun e=>hkj e.symm)]
      obtain⟨d1,d2,d3⟩:=Gblk k h h''
      have hne:bl[k]≠bl[j]:=fun e=>hkj ((List.getElem_inj Gnd).1 e)
      have hke:(ordK (kapA a) i)[k]≠kapA a i:=fun e=>hkj ((List.getElem_inj (ordK_nd (kapA a) i)).1 (e.trans hje.symm))
      refine⟨d1,by simp only[next_put,next_new];omega,?_⟩
      rw[hget _ _ _ _ (by omega) (by omega) hne,old _ d2,d3,grp_succ,if_neg (fun e=>hke e.symm)]
    ·rw[hord]
     refine Grow.keepT (by simp only[next_put,next_new];omega) fun k c h1 h2 h3=>?_
     rw[hget _ _ _ k (by omega) (by omega) (fun e=>by rw[e,b3] at h1;cases h1),old k h2]
     exact h1
   ·have hge:=getE_none (len:=fun k=>(grp (kapA a) k i).length) (bs:=bl) hin
    rw[hge] at lk
    simp only[Option.getD_none] at lk
    have hg0:grp (kapA a) (kapA a i) i=[]:=by
     refine List.eq_nil_iff_forall_not_mem.2 fun u hu=>hin ?_
     obtain⟨h1,h2⟩:=(grp_mem _ _ _ _).1 hu
     exact (ordK_mem _ _ _).2 ⟨u,h1,h2⟩
    have hvo:RowI s3 (m+1) 9 1 (ordK (kapA a) i).length (strs (ordK (kapA a) i)) vo:=Grow.keepT (by omega) fun k c h1 h2 h3=>by rw[old k h2];exact h1
    have hvo2:RowI (s3.new (.cells [.str (kapA a i)] 9 false 0 0)) (m+1) 9 1 (ordK (kapA a) i).length (strs (ordK (kapA a) i)) vo:=hvo.keepT (by rw[next_new];omega) fun k c h1 h2 h3=>by rw[get_new,if_neg (by omega)];exact h1
    obtain⟨s5,d1,d2,d3,d4,d5,d6⟩:=hvo2.appT (by rw[next_new];omega) (.str (kapA a i)) rfl
    rw[next_new] at d1 d2 d3 d4
    have la:=hvo.lenA
    have hol:=ordK_len (kapA a) i
    have hb1:((ordK (kapA a) i).length+1)*16≤1099511627776:=by omega
    have hb2:(ordK (kapA a) i).length+1≤1099511627776:=by omega
    simp (maxSteps:=2000000) +contextual only[go_sem,↓reduceIte,p4,p5,p6,p8,p30,k133',c1,um,lk,appK_some,Nat.reducePow,Nat.one_mul,hb1,hb2,la,hwr]
    rw[d1]
    have v5m:s5.get m=some (.map (ent (esOf (fun k=>(grp (kapA a) k i).length) (ordK (kapA a) i) bl)) false):=by rw[d5 m (by omega),get_new,if_neg (by omega)];exact um
    have z1:(s5.next=m)=False:=by simp;omega
    have z2:(s5.next+1=m)=False:=by simp;omega
    simp (maxSteps:=2000000) +contextual only[go_sem,↓reduceIte,p4,p6,p8,p30,v5m,lk,up,appK_some,Nat.reducePow,Nat.one_mul,hwr,z1,z2]
    have hord:ordK (kapA a) (i+1)=ordK (kapA a) i++[kapA a i]:=by rw[ordK,if_neg hin]
    have hg1:grp (kapA a) (kapA a i) (i+1)=[i]:=by rw[gsucc,hg0];rfl
    have hoth:∀k,k≠kapA a i→grp (kapA a) k (i+1)=grp (kapA a) k i:=fun k hke=>by rw[grp_succ,if_neg (fun e=>hke (Eq.symm e))]
    have hput:=putE_new (len:=fun k=>(grp (kapA a) k i).length) (len':=fun k=>(grp (kapA a) k (i+1)).length) (bs:=bl) (b':=s5.next+1) hin Glen (fun k hk=>by
     have:k≠kapA a i:=fun e=>hin (e ▸ hk)
     simp only[hoth k this])
    simp only[hg1,List.length_singleton] at hput
    rw[hput]
    have hget:∀x y k,k<s5.next→k≠m→(((s5.new x).new y).put m (.map (ent (esOf (fun k=>(grp (kapA a) k (i+1)).length) (ordK (kapA a) i++[kapA a i]) (bl++[s5.next+1]))) false)).get k=s5.get k:=fun x y k h1 h2=>by
     rw[get_put,if_neg h2.symm,get_new,next_new,if_neg (by omega),get_new,if_neg (by omega)]
    have low5:∀k,k<m→s5.get k=s'.get k:=fun k hk=>by rw[d5 k (by omega),get_new,if_neg (by omega),old k (by omega)]
    have typ5:∀k c,s'.get k=some (.cells c 3 false 0 0)→k<s'.next→s5.get k=some (.cells c 3 false 0 0):=fun k c h1 h2=>d4 k c 3 0 0 (by rw[get_new,if_neg (by omega),old k h2];exact h1) (by omega) (by decide)
    have lbl:∀x∈bl,x<s'.next:=fun x hx=>by
     obtain⟨k,hk1,rfl⟩:=List.mem_iff_getElem.1 hx
     exact (Gblk k hk1 (by omega)).2.1
    refine IH (i+1) _ _ (by omega) ⟨by omega,fun t ht=>?_,?_,?_,?_,fun k hk=>?_,by simp only[next_put,next_new];omega,(((d6 (c3.new _)).new _).new _).put (by simp only[next_new];omega) _,bl++[s5.next+1],.sl (s3.next+1) 0 ((ordK (kapA a) i).length+1) none 1,?_,⟨?_,?_,?_,fun k h h'=>?_,?_⟩⟩
    ·have hne:∀k:Nat,6≤k→(k=t)=False:=fun k hk=>by simp;omega
     have hne5:(5=t)=False:=by simp;omega
     simp +contextual only[go_sem,↓reduceIte,hne,hne5]
     exact pl t ht
    ·simp +contextual only[go_sem,↓reduceIte,p28]
    ·simp +contextual only[go_sem,↓reduceIte,p29]
    ·simp +contextual only[go_sem,↓reduceIte]
    ·rw[hget _ _ k (by omega) (by omega),low5 k hk,hs k hk]
    ·simp +contextual only[go_sem,↓reduceIte]
    ·rw[get_put,if_pos rfl,hord]
    ·rw[hord,List.length_append,List.length_append,Glen];rfl
    ·rw[List.nodup_append]
     refine⟨Gnd,by simp,fun x hx y hy=>?_⟩
     rw[List.mem_singleton.1 hy]
     have:=lbl x hx
     omega
    ·by_cases hkb:k<bl.length
     ·obtain⟨e1,e2,e3⟩:=Gblk k hkb (by omega)
      have hko:(ordK (kapA a) (i+1))[k]=(ordK (kapA a) i)[k]'(by omega):=by simp only[hord];rw[List.getElem_append_left (by omega)]
      have hke:(ordK (kapA a) i)[k]'(by omega)≠kapA a i:=fun e=>hin (e ▸ List.getElem_mem (by omega))
      rw[hko,List.getElem_append_left hkb,hoth _ hke]
      refine⟨e1,by simp only[next_put,next_new];omega,?_⟩
      rw[hget _ _ _ (by omega) (by omega)]
      exact typ5 _ _ e3 e2
     ·have hkl:k=bl.length:=by rw[List.length_append,List.length_singleton] at h;omega
      subst hkl
      have hko:(ordK (kapA a) (i+1))[bl.length]=kapA a i:=by simp only[hord];rw[List.getElem_append_right (by omega)];simp
      rw[hko,List.getElem_append_right (by omega),hg1]
      simp only[List.getElem_singleton]
      refine⟨by omega,by simp only[next_put,next_new];omega,?_⟩
      rw[get_put,if_neg (by omega),get_new,next_new,if_pos rfl]
      rfl
    ·have e1:(ordK (kapA a) (i+1)).length=(ordK (kapA a) i).length+1:=by rw[hord];simp
     have e2:strs (ordK (kapA a) (i+1))=strs (ordK (kapA a) i)++[.str (kapA a i)]:=by rw[hord];simp[strs]
     rw[e1,e2]
     refine d3.keepT (by simp only[next_put,next_new];omega) fun k c h1 h2 h3=>?_
     rw[hget _ _ k (by omega) (by omega)]
     exact h1
  case refine_6=>exact fr'.new _
  case refine_5 =>
   refine⟨.nilp,.nils,?_,.inl rfl,by rw[next_new];omega,RowI.nil _ _ _ _⟩
   rw[get_new,if_pos rfl]
  all_goals simp +contextual only[go_sem,↓reduceIte]
  all_goals rfl
 ·have:i=a.fires.length:=by omega
  subst this
  simp (maxSteps:=2000000) +contextual only[go_sem,↓reduceIte,r214_l1,q29,q30,nat_lt_dec,Nat.lt_irrefl]
  rw[hfl] at G
  refine hk _ _ bl vo (fun t ht=>?_) ?_ G hs hnx fr'
  ·have hne:∀k:Nat,6≤k→(k=t)=False:=fun k hk=>by simp;omega
   simp +contextual only[go_sem,↓reduceIte,hne]
   exact hold t ht
  ·simp +contextual only[go_sem,↓reduceIte,q5]
theorem sllN {b n f t:Nat}{cap:Option Nat}(hc:cap=none∨cap=some n)(h1:f≤t)(h2:t≤n):slRL 1 (.sl b 0 n cap 1) (some (.int .i64 (f:Int))) (some (.int .i64 (t:Int)))=some (.sl b f (t-f) (cap.map (·-f)) 1):=by
 have e1:boundA (some (.int .i64 (t:Int))) n n=some t:=by simp[boundA];omega
 have e2:boundA (some (.int .i64 (f:Int))) 0 t=some f:=by simp[boundA];omega
 rcases hc with rfl|rfl
 ·simp only[slRL,Option.getD_none,e1,e2,Nat.mul_one,Nat.zero_add,if_true]
 ·simp only[slRL,Option.getD_some,e1,e2,Nat.mul_one,Nat.zero_add,if_true]
theorem appX {s:St}{b n:Nat}{L:List Nat}(hL:L.length=n)(hg:s.get b=some (.cells (nats L) 3 false 0 0))(k:Nat) :
  appD 3 1 1 [.int .i64 (k:Int)] (.sl b 0 n none 1) s=some (.sl s.next 0 (n+1) none 1,(s.put b .gone).new (.cells (nats (L++[k])) 3 false 0 0)):=by
 have hcs:(nats L).length=n*1:=by rw[nats_len,hL,Nat.mul_one]
 rw[appD_sl,hg,appS_cells hcs (by omega) rfl,nats_app]
theorem appX0 {s:St}{b n:Nat}{L:List Nat}(hL:L.length=n)(hg:s.get b=some (.cells (nats L) 3 false 0 0)) :
  appD 3 1 1 [.int .i64 0] (.sl b 0 n none 1) s=some (.sl s.next 0 (n+1) none 1,(s.put b .gone).new (.cells (nats (L++[0])) 3 false 0 0)):=appX hL hg 0
theorem piece_len {l:List Nat}{f t:Nat}(h:t≤l.length):(piece l f t).length=t-f:=by unfold piece;simp;omega
theorem piece_at {l:List Nat}{f t i:Nat}(h:t≤l.length)(hi:i<t-f):(piece l f t)[i]'(by rw[piece_len h];exact hi)=gt l (f+i):=by
 rw[gt_get (by omega)]
 unfold piece
 rw[List.getElem_take,List.getElem_drop]
theorem l217 {β:Type}{fin:Fl→β}{ks:List K}{Post:β→Prop}{pb bl bs n f t K m x1 x4 x5:Nat}{L S:List Nat}{vp ve vm:AV}{c:Option Nat}{bb:Nat}(hft:f≤t)(ht:t≤L.length)(hL:L.length≤2^20)(hK:K≤2^20)(hS:S.length=n)(hLn:∀i,i<L.length→gt L i<n)(hps:pb≠bs)(hls:bl≠bs)
  {e:Env}{s:St}(g0:Env.get e 0=.ptr pb 0)(g119:Env.get e 119=.sl bl f (t-f) c 1)(g120:Env.get e 120=.int .i64 ((t-f:Nat):Int))(g121:Env.get e 121=.int .i64 (0:Nat))
  (gp:s.get pb=some (.cells [.sl bl 0 L.length none 1,vp,.sl bs 0 n (some n) 1,.sl bb 0 (K+1) none 1,ve,vm] 285 false 0 0))(gl:s.get bl=some (.cells (nats L) 3 false 0 0))(gs:s.get bs=some (.cells (nats S) 3 false 0 0))(hbs:bs<s.next)(fr:Fr s)
  (hk:∀e' s',Env.get e' 0=.ptr pb 0→s'.get bs=some (.cells (nats (setAll K (piece L f t) S)) 3 false 0 0)→(∀j,j≠bs→s'.get j=s.get j)→s.next≤s'.next→Fr s'→Post (goN U fin ks e' s')) :
  Post (goL U fin (.bk 0::ks) r217_l0 e s):=by
 have hpl:=piece_len (f:=f) ht
 refine loop_ex (σ:=Nat) (fun i=>t-f-i) (fun i e' s'=>i≤t-f∧Env.get e' 0=.ptr pb 0∧Env.get e' 119=.sl bl f (t-f) c 1∧Env.get e' 120=.int .i64 ((t-f:Nat):Int)∧Env.get e' 121=.int .i64 (i:Nat)∧(∀j,j≠bs→s'.get j=s.get j)∧s.next≤s'.next∧Fr s' ∧
   ∃S',S'.length=n∧s'.get bs=some (.cells (nats S') 3 false 0 0)∧setAll K ((piece L f t).drop i) S'=setAll K (piece L f t) S) 0 ?_
  ⟨Nat.zero_le _,g0,g119,g120,g121,fun _ _=>rfl,Nat.le_refl _,fr,S,hS,gs,rfl⟩
 rintro Lp i e' s' ⟨hi,q0,q119,q120,q121,hs,hnx,fr',S',hS',qs,hset⟩ IH
 have gp':=(hs pb hps).trans gp
 have gl':=(hs bl hls).trans gl
 by_cases hd:i<t-f
 ·have hw:=wrap_succ hd (by omega)
  have o1:=nats_get (l:=L) (i:=f+i) (by omega)
  have hu:=hLn (f+i) (by omega)
  have hlay:=nats_lay (l:=S') (i:=gt L (f+i)) K (by omega)
  rw[List.drop_eq_getElem_cons (by rw[hpl];exact hd),piece_at ht hd,setAll] at hset
  have w1:IntKind.i64.wrap (((K+1:Nat):Int)-1)=(K:Int):=by rw[wrap_i64] <;> omega
  have z1:(bs=pb)=False:=eq_false hps.symm
  have z2:(bs=bl)=False:=eq_false hls.symm
  simp (maxSteps:=2000000) +contextual only[go_sem,↓reduceIte,r217_l0,q0,q119,q120,q121,nat_lt_dec,hd,gp',gl',qs,o1,hu,hlay,w1,hw,Nat.mul_one,z1,z2]
  refine IH (i+1) _ _ (by omega) ⟨by omega,?_,?_,?_,?_,fun j hj=>?_,?_,?_,S'.set (gt L (f+i)) K,by rw[List.length_set];exact hS',?_,hset⟩
  ·simp +contextual only[go_sem,↓reduceIte,q0]
  ·simp +contextual only[go_sem,↓reduceIte,q119]
  ·simp +contextual only[go_sem,↓reduceIte,q120]
  ·simp +contextual only[go_sem,↓reduceIte,hw]
  ·rw[get_put,if_neg hj.symm,upto_get];exact hs j hj
  ·rw[next_put,upto_next];omega
  ·exact (fr'.upto (by omega)).put (by rw[upto_next];omega) _
  ·rw[get_put,if_pos rfl]
 ·have:i=t-f:=by omega
  subst this
  have hdn:(piece L f t).drop (t-f)=[]:=by rw[←hpl,List.drop_length]
  rw[hdn,setAll] at hset
  simp (maxSteps:=2000000) +contextual only[go_sem,↓reduceIte,r217_l0,q120,q121,nat_lt_dec,Nat.lt_irrefl]
  refine hk _ _ ?_ (by rw[qs,hset]) hs hnx fr'
  simp +contextual only[go_sem,↓reduceIte,q0]
def P217 (s0:St)(pb n bl bp bs bb be bm:Nat)(p:Pt)(v:Int)(r:Option (AV×St)):Prop :=
 ∃s' bb' be' bm',r=some (.int .i64 v,s')∧PtI s' pb n bl bp bs bb' be' bm' p∧s0.next≤s'.next∧Fr s'∧(bb'=bb∨s0.next≤bb')∧(be'=be∨s0.next≤be')∧(bm'=bm∨s0.next≤bm') ∧
  ∀j,j<s0.next→j≠pb→j≠bs→j≠bb→j≠be→j≠bm→s'.get j=s0.get j
theorem f217 {s S:St}{e:Env}{pb n bl bp bs bb be bm b1 b2 b3 f t:Nat}{c:Option Nat}{p:Pt}{bg' en' mr':List Nat}(hbl:bg'.length=p.bg.length+1)(hel:en'.length=p.en.length+1)(hml:mr'.length=p.mr.length+1)(h:PtI s pb n bl bp bs bb be bm p)(hw:p.Wf n)(hn:n≤2^19)(hft:f≤t)(ht:t≤n)
  (hb1:s.next≤b1)(hb2:b1<b2)(hb3:b2<b3)(hb4:b3<S.next)
  (g0:Env.get e 0=.ptr pb 0)(g119:Env.get e 119=.sl bl f (t-f) c 1)(g120:Env.get e 120=.int .i64 ((t-f:Nat):Int))(g121:Env.get e 121=.int .i64 (0:Nat))
  (gp:S.get pb=some (.cells [.sl bl 0 p.list.length none 1,.sl bp 0 p.place.length (some n) 1,.sl bs 0 p.set.length (some n) 1,.sl b1 0 (p.bg.length+1) none 1,.sl b2 0 (p.en.length+1) none 1,.sl b3 0 (p.mr.length+1) none 1] 285 false 0 0))
  (gs:S.get bs=some (.cells (nats p.set) 3 false 0 0))(k1:S.get b1=some (.cells (nats bg') 3 false 0 0))(k2:S.get b2=some (.cells (nats en') 3 false 0 0))(k3:S.get b3=some (.cells (nats mr') 3 false 0 0))(fr:Fr S)
  (hold:∀j,j<s.next→j≠pb→j≠bs→j≠bb→j≠be→j≠bm→S.get j=s.get j) :
  P217 s pb n bl bp bs bb be bm { list:=p.list,place:=p.place,set:=setAll p.bg.length (piece p.list f t) p.set,bg:=bg',en:=en',mr:=mr' } p.bg.length
   (goL U (finB U [.tmp 4]) [.bk 0,.sq (.seq (.ops [⟨some 138,none,none,false,.mov (.t 0)⟩,⟨some 139,none,none,false,.raw (.nilCheck (.tmp 138))⟩,⟨some 140,none,none,false,.fa 3 (.t 139)⟩,⟨some 141,none,none,false,.ld1 (.t 140)⟩,⟨some 142,none,none,false,.lenL (.t 141)⟩,
    ⟨some 143,none,none,false,.bin .sub 3 true (.t 142) (.v (.int .i64 1))⟩,⟨some 4,none,none,false,.mov (.t 143)⟩]) .ret)] r217_l0 e S):=by
 have A:=Ap.of h.ne
 have hls:=hw.ls;have hll:=hw.ll;have hlp:=hw.lp;have hfew:=hw.few
 have lpb:=h.lt pb (by simp);have lbl:=h.lt bl (by simp);have lbp:=h.lt bp (by simp);have lbs:=h.lt bs (by simp)
 have gl:S.get bl=some (.cells (nats p.list) 3 false 0 0):=(hold bl lbl A.n1.symm A.n8 A.n9 A.n10 A.n11).trans h.gl
 have gpl:S.get bp=some (.cells (nats p.place) 3 false 0 0):=(hold bp lbp A.n2.symm A.n12 A.n13 A.n14 A.n15).trans h.gp
 have gp':=gp
 rw[hls] at gp'
 refine l217 (Post:=P217 s pb n bl bp bs bb be bm { list:=p.list,place:=p.place,set:=setAll p.bg.length (piece p.list f t) p.set,bg:=bg',en:=en',mr:=mr' } p.bg.length) (x1:=0) (x4:=0) (x5:=0) (m:=0) (K:=p.bg.length) hft (by omega) (by omega) (by omega) hls (fun i hi=>(hw.li i (by omega)).1) A.n3 A.n8 g0 g119 g120 g121 gp' gl gs (by omega) fr ?_
 intro e' s' q0 qs hs hnx fr'
 have w1:IntKind.i64.wrap (((p.bg.length+1:Nat):Int)-1)=(p.bg.length:Int):=by rw[wrap_i64] <;> omega
 have hp:=(hs pb A.n3).trans gp
 simp (maxSteps:=2000000) +contextual only[go_sem,↓reduceIte,q0,hp,w1]
 refine⟨s',b1,b2,b3,rfl,⟨?_,(hs bl A.n8).trans gl,(hs bp A.n12).trans gpl,qs,(hs b1 (by omega)).trans k1,(hs b2 (by omega)).trans k2,(hs b3 (by omega)).trans k3,?_,?_⟩,by omega,fr',.inr hb1,.inr (by omega),.inr (by omega),fun j h1 h2 h3 h4 h5 h6=>by rw[hs j h3,hold j h1 h2 h3 h4 h5 h6]⟩
 ·rw[hp]
  simp only[setAll_len,hbl,hel,hml]
 ·have:=A.n1;have:=A.n2;have:=A.n3;have:=A.n7;have:=A.n8;have:=A.n12
  simp only[List.nodup_cons,List.mem_cons,List.not_mem_nil,not_or,or_false,List.nodup_nil,and_true,not_false_eq_true]
  refine⟨⟨A.n1,A.n2,A.n3,?_,?_,?_⟩,⟨A.n7,A.n8,?_,?_,?_⟩,⟨A.n12,?_,?_,?_⟩,⟨?_,?_,?_⟩,⟨?_,?_⟩,?_⟩ <;> omega
 ·intro j hj
  simp only[List.mem_cons,List.not_mem_nil,or_false] at hj
  rcases hj with rfl|rfl|rfl|rfl|rfl|rfl|rfl <;> omega
theorem c217 {s:St}{pb n bl bp bs bb be bm:Nat}{p:Pt}(h:PtI s pb n bl bp bs bb be bm p)(hw:p.Wf n)(hn:n≤2^19)(fr:Fr s){k:Nat}(hk:k<p.bg.length)(hm0:0<gt p.mr k) :
  P217 s pb n bl bp bs bb be bm (p.cut k).1 (bif (p.cut k).2 then (p.bg.length:Int) else -1) (cal U 217 [.ptr pb 0,.int .i64 (k:Int)] s):=by
 suffices hgo:P217 s pb n bl bp bs bb be bm (p.cut k).1 (bif (p.cut k).2 then (p.bg.length:Int) else -1) (go U (finB U [.tmp 4]) [] r217 (bindArgs 0 [.ptr pb 0,.int .i64 (k:Int)] .nil) s) by
  obtain⟨s',b1,b2,b3,h1,h2⟩:=hgo
  exact⟨s',b1,b2,b3,kept_go k217 (by kernel_rfl) h1,h2⟩
 obtain⟨hk1,hk2,hk3⟩:=hw.sp k hk
 have hmk:=hw.mr k hk
 obtain⟨g,gl,gp,gs,gb,ge,gm,nd,lt⟩:=h
 have A:=Ap.of nd
 have hll:=hw.ll;have hlp:=hw.lp;have hls:=hw.ls;have hle:=hw.le;have hlm:=hw.lm
 have hfew:=hw.few
 have lt':pb<s.next∧bl<s.next∧bp<s.next∧bs<s.next∧bb<s.next∧be<s.next∧bm<s.next:=by
  refine⟨lt _ (by simp),lt _ (by simp),lt _ (by simp),lt _ (by simp),lt _ (by simp),lt _ (by simp),lt _ (by simp)⟩
 obtain⟨lt1,lt2,lt3,lt4,lt5,lt6,lt7⟩:=lt'
 have q1:=nats_get (l:=p.mr) (i:=k) (by omega)
 have q2:=nats_get (l:=p.en) (i:=k) (by omega)
 have q3:=nats_get (l:=p.bg) (i:=k) hk
 have km:k<p.mr.length:=by omega
 have ke:k<p.en.length:=by omega
 have w1:IntKind.i64.wrap (((gt p.en k:Nat):Int)-((gt p.bg k:Nat):Int))=((gt p.en k-gt p.bg k:Nat):Int):=by rw[wrap_i64] <;> omega
 have y1:=nats_lay (l:=p.mr) (i:=k) 0 km
 have y1:lay k [.int .i64 0] (nats p.mr)=some (nats (p.mr.set k 0)):=y1
 have z1:(bm=pb)=False:=eq_false A.n6.symm
 have z2:(bm=bb)=False:=eq_false A.n20.symm
 have z3:(bm=be)=False:=eq_false A.n21.symm
 have e1:=ieqN (gt p.mr k) (gt p.en k-gt p.bg k)
 unfold Pt.cut
 cases hall:gt p.mr k==gt p.en k-gt p.bg k with
 |true =>
  rw[hall] at e1
  simp (maxSteps:=2000000) +contextual only[go_sem,↓reduceIte,r217,g,gb,ge,gm,q1,q2,q3,hk,km,ke,w1,y1,Nat.mul_one,z1,z2,z3,e1,cond_true]
  refine⟨_,bb,be,bm,rfl,⟨?_,?_,?_,?_,?_,?_,?_,nd,fun j hj=>?_⟩,?_,?_,.inl rfl,.inl rfl,.inl rfl,fun j h1 h2 h3 h4 h5 h6=>?_⟩
  ·rw[get_put,if_neg A.n6.symm,upto_get,g]
   simp only[List.length_set]
  ·rw[get_put,if_neg A.n11.symm,upto_get,gl]
  ·rw[get_put,if_neg A.n15.symm,upto_get,gp]
  ·rw[get_put,if_neg A.n18.symm,upto_get,gs]
  ·rw[get_put,if_neg A.n20.symm,upto_get,gb]
  ·rw[get_put,if_neg A.n21.symm,upto_get,ge]
  ·rw[get_put,if_pos rfl]
  ·simp only[next_put,upto_next]
   have:=lt j hj
   omega
  ·simp only[next_put,upto_next];omega
  ·exact (fr.upto (by omega)).put (by rw[upto_next];omega) _
  ·rw[get_put,if_neg h6.symm,upto_get]
 |false =>
  rw[hall] at e1
  have hN1:∀j q,j<s.next→(j=s.next+q)=False:=fun j q hj=>by simp;omega
  have hN2:∀j q,j<s.next→(s.next+q=j)=False:=fun j q hj=>by simp;omega
  have hN3:∀q,q≠0→(s.next+q=s.next)=False:=fun q hq=>by simp;omega
  have hN4:∀q,q≠0→(s.next=s.next+q)=False:=fun q hq=>by simp;omega
  have hfk:=fr.at
  have w2:IntKind.i64.wrap (((gt p.bg k:Nat):Int)+((gt p.mr k:Nat):Int))=((gt p.bg k+gt p.mr k:Nat):Int):=by rw[wrap_i64] <;> omega
  have w3:IntKind.i64.wrap (2*((gt p.mr k:Nat):Int))=2*((gt p.mr k:Nat):Int):=by rw[wrap_i64] <;> omega
  have e2:decide (2*((gt p.mr k:Nat):Int)>((gt p.en k-gt p.bg k:Nat):Int))=decide (2*gt p.mr k>gt p.en k-gt p.bg k):=by congr 1;apply propext;omega
  have z4:(be=pb)=False:=eq_false A.n5.symm
  have z5:(be=bb)=False:=eq_false A.n19.symm
  have z6:(be=bm)=False:=eq_false A.n21
  have z7:(bb=pb)=False:=eq_false A.n4.symm
  have z8:(bb=be)=False:=eq_false A.n19
  have z9:(bb=bm)=False:=eq_false A.n20
  have x1:(pb=bs)=False:=eq_false A.n3
  have x2:(bb=bs)=False:=eq_false A.n16.symm
  have x3:(be=bs)=False:=eq_false A.n17.symm
  have x4:(bm=bs)=False:=eq_false A.n18.symm
  have x5:(pb=bb)=False:=eq_false A.n4
  have x6:(pb=be)=False:=eq_false A.n5
  have x7:(pb=bm)=False:=eq_false A.n6
  have hb1:(p.bg.length+1)*8≤1099511627776:=by omega
  have hb2:p.bg.length+1≤1099511627776:=by omega
  have hb3:(p.en.length+1)*8≤1099511627776:=by omega
  have hb4:p.en.length+1≤1099511627776:=by omega
  have hb5:(p.mr.length+1)*8≤1099511627776:=by omega
  have hb6:p.mr.length+1≤1099511627776:=by omega
  cases h2:decide (2*gt p.mr k>gt p.en k-gt p.bg k) with
  |true =>
   rw[h2] at e2
   have y2:=nats_lay (l:=p.en) (i:=k) (gt p.bg k+gt p.mr k) ke
   have sl1:=sllN (b:=bl) (n:=p.list.length) (f:=gt p.bg k+gt p.mr k) (t:=gt p.en k) (.inl rfl) (by omega) (by omega)
   have a1:=fun (S:St) (h:S.get bb=some (.cells (nats p.bg) 3 false 0 0))=>appX rfl h (gt p.bg k+gt p.mr k)
   have a2:=fun (S:St) (h:S.get be=some (.cells (nats (p.en.set k (gt p.bg k+gt p.mr k))) 3 false 0 0))=>appX (n:=p.en.length) (by simp) h (gt p.en k)
   have a3:=fun (S:St) (h:S.get bm=some (.cells (nats (p.mr.set k 0)) 3 false 0 0))=>appX0 (n:=p.mr.length) (by simp) h
   simp (maxSteps:=2000000) +contextual only[go_sem,↓reduceIte,r217,g,gb,ge,gm,q1,q2,q3,hk,km,ke,w1,w2,w3,y1,y2,Nat.mul_one,z1,z2,z3,z4,z5,z6,z7,z8,z9,e1,e2,cond_true,cond_false,go_drcU d217_0,hN1,hN2,lt1,lt2,lt3,lt4,lt5,lt6,lt7,hfk,a1,a2,a3,appK_some,Nat.reducePow,Nat.one_mul,hb1,hb2,hb3,hb4,hb5,hb6,Nat.add_assoc,Option.isNone_none,hN3,hN4,sl1,Option.map_none]
   refine f217 (b1:=s.next+84) (b2:=s.next+85) (b3:=s.next+86) (c:=none) (by simp) (by simp) (by simp) ⟨g,gl,gp,gs,gb,ge,gm,nd,lt⟩ hw hn (by omega) (by omega) (by omega) (by omega) (by omega) ?_ ?_ ?_ ?_ ?_ ?_ ?_ ?_ ?_ ?_ ?_ ?_
   case refine_1=>simp only[next_put,next_new,upto_next];omega
   case refine_11 =>
    repeat first|exact fr|apply Fr.new|apply Fr.put|apply Fr.upto
    all_goals try simp only[next_put,next_new,upto_next]
    all_goals omega
   case refine_12 =>
    intro j h1 h2 h3 h4 h5 h6
    have v1:(pb=j)=False:=eq_false h2.symm
    have v2:(bs=j)=False:=eq_false h3.symm
    have v3:(bb=j)=False:=eq_false h4.symm
    have v4:(be=j)=False:=eq_false h5.symm
    have v5:(bm=j)=False:=eq_false h6.symm
    have v6:∀q,(s.next+q=j)=False:=fun q=>hN2 j q h1
    simp only[get_put,get_new,next_put,next_new,upto_get,upto_next,v1,v3,v4,v5,v6,if_false,Nat.add_assoc]
   all_goals simp +contextual only[go_sem,↓reduceIte,g,gs,z1,z2,z3,z4,z5,z6,z7,z8,z9,x1,x2,x3,x4,x5,x6,x7,hN1,hN2,lt1,lt2,lt3,lt4,lt5,lt6,lt7,Nat.add_assoc]
   all_goals first|rfl|simp
  |false =>
   rw[h2] at e2
   have y2:=nats_lay (l:=p.bg) (i:=k) (gt p.bg k+gt p.mr k) hk
   have sl1:=sllN (b:=bl) (n:=p.list.length) (f:=gt p.bg k) (t:=gt p.bg k+gt p.mr k) (.inl rfl) (by omega) (by omega)
   have a1:=fun (S:St) (h:S.get bb=some (.cells (nats (p.bg.set k (gt p.bg k+gt p.mr k))) 3 false 0 0))=>appX (n:=p.bg.length) (by simp) h (gt p.bg k)
   have a2:=fun (S:St) (h:S.get be=some (.cells (nats p.en) 3 false 0 0))=>appX (n:=p.en.length) rfl h (gt p.bg k+gt p.mr k)
   have a3:=fun (S:St) (h:S.get bm=some (.cells (nats (p.mr.set k 0)) 3 false 0 0))=>appX0 (n:=p.mr.length) (by simp) h
   simp (maxSteps:=2000000) +contextual only[go_sem,↓reduceIte,r217,g,gb,ge,gm,q1,q2,q3,hk,km,ke,w1,w2,w3,y1,y2,Nat.mul_one,z1,z2,z3,z4,z5,z6,z7,z8,z9,e1,e2,cond_true,cond_false,go_drcU d217_0,hN1,hN2,lt1,lt2,lt3,lt4,lt5,lt6,lt7,hfk,a1,a2,a3,appK_some,Nat.reducePow,Nat.one_mul,hb1,hb2,hb3,hb4,hb5,hb6,Nat.add_assoc,Option.isNone_none,hN3,hN4,sl1,Option.map_none]
   refine f217 (b1:=s.next+74) (b2:=s.next+75) (b3:=s.next+76) (c:=none) (by simp) (by simp) (by simp) ⟨g,gl,gp,gs,gb,ge,gm,nd,lt⟩ hw hn (by omega) (by omega) (by omega) (by omega) (by omega) ?_ ?_ ?_ ?_ ?_ ?_ ?_ ?_ ?_ ?_ ?_ ?_
   case refine_1=>simp only[next_put,next_new,upto_next];omega
   case refine_11 =>
    repeat first|exact fr|apply Fr.new|apply Fr.put|apply Fr.upto
    all_goals try simp only[next_put,next_new,upto_next]
    all_goals omega
   case refine_12 =>
    intro j h1 h2 h3 h4 h5 h6
    have v1:(pb=j)=False:=eq_false h2.symm
    have v2:(bs=j)=False:=eq_false h3.symm
    have v3:(bb=j)=False:=eq_false h4.symm
    have v4:(be=j)=False:=eq_false h5.symm
    have v5:(bm=j)=False:=eq_false h6.symm
    have v6:∀q,(s.next+q=j)=False:=fun q=>hN2 j q h1
    simp only[get_put,get_new,next_put,next_new,upto_get,upto_next,v1,v3,v4,v5,v6,if_false,Nat.add_assoc]
   all_goals simp +contextual only[go_sem,↓reduceIte,g,gs,z1,z2,z3,z4,z5,z6,z7,z8,z9,x1,x2,x3,x4,x5,x6,x7,hN1,hN2,lt1,lt2,lt3,lt4,lt5,lt6,lt7,Nat.add_assoc]
   all_goals first|rfl|simp
def SlI (s:St)(N:Nat)(L:List Nat)(v:AV):Prop:=(v=.nils∧L=[])∨∃b,v=.sl b 0 L.length none 1∧s.get b=some (.cells (nats L) 3 false 0 0)∧N≤b∧b<s.next
def isB (v:AV)(j:Nat):Prop:=∃n,v=.sl j 0 n none 1
theorem isB_sl (b n j:Nat):isB (.sl b 0 n none 1) j↔b=j:=by
 constructor
 ·rintro⟨m,h⟩;cases h;rfl
 ·rintro rfl;exact⟨n,rfl⟩
theorem isB_nils (j:Nat):¬isB .nils j:=by rintro⟨m,h⟩;cases h
theorem SlI.keep {s s':St}{N:Nat}{L:List Nat}{v:AV}(h:SlI s N L v)(hn:s.next≤s'.next)(hg:∀j,j<s.next→N≤j→isB v j→s'.get j=s.get j):SlI s' N L v:=by
 rcases h with h|⟨b,h1,h2,h3,h4⟩
 ·exact .inl h
 ·exact .inr ⟨b,h1,by rw[hg b h4 h3 ⟨_,h1⟩];exact h2,h3,by omega⟩
theorem SlI.lt {s:St}{N:Nat}{L:List Nat}{v:AV}(h:SlI s N L v){j:Nat}(hj:isB v j):N≤j∧j<s.next:=by
 rcases h with⟨h,_⟩|⟨b,h1,h2,h3,h4⟩
 ·rw[h] at hj;exact absurd hj (isB_nils j)
 ·rw[h1,isB_sl] at hj;subst hj;exact⟨h3,h4⟩
structure MidI (s:St)(pb n bp bs N:Nat)(p:Pt)(vl ve:AV)(b1 b3:Nat):Prop where
 g:s.get pb=some (.cells [vl,.sl bp 0 n (some n) 1,.sl bs 0 n (some n) 1,.sl b1 0 p.bg.length none 1,ve,.sl b3 0 p.mr.length none 1] 285 false 0 0)
 gp:s.get bp=some (.cells (nats p.place) 3 false 0 0)
 gs:s.get bs=some (.cells (nats p.set) 3 false 0 0)
 gb:s.get b1=some (.cells (nats p.bg) 3 false 0 0)
 gm:s.get b3=some (.cells (nats p.mr) 3 false 0 0)
 l:SlI s N p.list vl
 e:SlI s N p.en ve
 h1:N≤b1∧b1<s.next∧N≤b3∧b3<s.next∧b1≠b3
 dl:∀j,isB vl j→j≠b1∧j≠b3∧¬isB ve j
 de:∀j,isB ve j→j≠b1∧j≠b3
 lo:pb<N∧bp<N∧bs<N∧pb≠bp∧pb≠bs∧bp≠bs∧N≤s.next
 lp:p.place.length=n
 ls:p.set.length=n
theorem l214c {β:Type}{fin:Fl→β}{ks:List K}{Post:β→Prop}{pb n bp bs N b1 b3 K gb:Nat}{p:Pt}{vl ve:AV}{G:List Nat}{e:Env}{s:St}(hn:n≤2^19)(hG:∀u∈G,u<n)(hb:p.list.length+G.length≤2^20)(hK:K≤2^20)
  (g3:Env.get e 3=.ptr pb 0)(g12:Env.get e 12=.int .i64 (K:Int))(g96:Env.get e 96=.sl gb 0 G.length none 1)(g97:Env.get e 97=.int .i64 G.length)(g98:Env.get e 98=.int .i64 (0:Nat))
  (hgb:s.get gb=some (.cells (nats G) 3 false 0 0))(hlt:gb<N)(hne:gb≠pb∧gb≠bp∧gb≠bs)(M:MidI s pb n bp bs N p vl ve b1 b3)(fr:Fr s)
  (hk:∀e' s' vl',(∀t:Nat,t<15∨15<t∧t<98→Env.get e' t=Env.get e t)→MidI s' pb n bp bs N (addSt K G p) vl' ve b1 b3→(∀j,j<N→j≠pb→j≠bp→j≠bs→s'.get j=s.get j)→s.next≤s'.next→Fr s'→Post (goN U fin ks e' s')) :
  Post (goL U fin (.bk 6::ks) r214_l2 e s):=by
 refine loop_ex (σ:=Nat) (fun i=>G.length-i) (fun i e' s'=>i≤G.length∧(∀t:Nat,t<15∨15<t∧t<98→Env.get e' t=Env.get e t)∧Env.get e' 98=.int .i64 (i:Nat)∧(∀j,j<N→j≠pb→j≠bp→j≠bs→s'.get j=s.get j)∧s.next≤s'.next∧Fr s' ∧
   ∃p' vl',MidI s' pb n bp bs N p' vl' ve b1 b3∧addSt K (G.drop i) p'=addSt K G p∧p'.list.length=p.list.length+i) 0 ?_
  ⟨Nat.zero_le _,fun _ _=>rfl,g98,fun _ _ _ _ _=>rfl,Nat.le_refl _,fr,p,vl,M,rfl,rfl⟩
 rintro Lp i e' s' ⟨hi,hold,q98,hs,hnx,fr',p',vl',M',hadd,hlen⟩ IH
 have q3:=(hold 3 (by omega)).trans g3
 have q12:=(hold 12 (by omega)).trans g12
 have q96:=(hold 96 (by omega)).trans g96
 have q97:=(hold 97 (by omega)).trans g97
 by_cases hd:i<G.length
 ·have hw:=wrap_succ hd (by omega)
  have hgb':=(hs gb hlt hne.1 hne.2.1 hne.2.2).trans hgb
  have o1:=nats_get (l:=G) (i:=i) hd
  have hu:=hG _ (List.getElem_mem hd)
  rw[gt_get hd] at o1
  rw[List.drop_eq_getElem_cons hd,addSt] at hadd
  generalize G[i]=u at *
  obtain⟨g,gp,gs,gb1,gm,hl,he,⟨c1,c2,c3,c4,c5⟩,dl,de,⟨d1,d2,d3,d4,d5,d6,d7⟩,lp,ls⟩:=M'
  have y1:=nats_lay (l:=p'.place) (i:=u) p'.list.length (by omega)
  have y2:=nats_lay (l:=p'.set) (i:=u) K (by omega)
  have u1:u<n:=hu
  have z1:(bp=pb)=False:=eq_false d4.symm
  have z2:(bp=bs)=False:=eq_false d6
  have z3:(bs=pb)=False:=eq_false d5.symm
  have z4:(bs=bp)=False:=eq_false d6.symm
  have hb1:(p'.list.length+1)*8≤1099511627776:=by omega
  have hb2:p'.list.length+1≤1099511627776:=by omega
  have hb5:(0+1)*8≤1099511627776:=by omega
  have hb6:0+1≤1099511627776:=by omega
  have f1:∀q,(s'.next+q=pb)=False:=fun q=>by simp;omega
  have f2:∀q,(s'.next+q=bp)=False:=fun q=>by simp;omega
  have f3:∀q,(s'.next+q=bs)=False:=fun q=>by simp;omega
  have f6:∀b,N≤b→(pb=b)=False:=fun b hb=>by simp;omega
  have f7:∀b,N≤b→(bp=b)=False:=fun b hb=>by simp;omega
  have f8:∀b,N≤b→(bs=b)=False:=fun b hb=>by simp;omega
  have f9:∀b,N≤b→(b=pb)=False:=fun b hb=>by simp;omega
  have f11:∀b,N≤b→(b=bp)=False:=fun b hb=>by simp;omega
  have f12:∀b,N≤b→(b=bs)=False:=fun b hb=>by simp;omega
  have hnt:∀t:Nat,t<15∨15<t∧t<98→((15=t)=False∧∀k:Nat,98≤k→(k=t)=False):=fun t ht=>⟨by simp;omega,fun k hk=>by simp;omega⟩
  have key:∀(E:Env) (S:St),(∀t:Nat,t<15∨15<t∧t<98→Env.get E t=Env.get e' t)→Env.get E 98=.int .i64 ((i+1:Nat):Int) →
    S.get pb=some (.cells [.sl (s'.next+21) 0 (p'.list.length+1) none 1,.sl bp 0 n (some n) 1,.sl bs 0 n (some n) 1,.sl b1 0 p'.bg.length none 1,ve,.sl b3 0 p'.mr.length none 1] 285 false 0 0) →
    S.get bp=some (.cells (nats (p'.place.set u p'.list.length)) 3 false 0 0)→S.get bs=some (.cells (nats (p'.set.set u K)) 3 false 0 0)→S.get (s'.next+21)=some (.cells (nats (p'.list++[u])) 3 false 0 0) →
    (∀j,j<s'.next→j≠pb→j≠bp→j≠bs→¬isB vl' j→S.get j=s'.get j)→s'.next+21<S.next→Fr S→Post (goL U fin (.bk 6::ks) Lp E S):=by
   intro E S k1 k2 k3 k4 k5 k6 k7 k8 k9
   refine IH (i+1) _ _ (by omega) ⟨by omega,fun t ht=>(k1 t ht).trans (hold t ht),k2,fun j h1 h2 h3 h4=>(k7 j (by omega) h2 h3 h4 fun h=>by have:=hl.lt h;omega).trans (hs j h1 h2 h3 h4),by omega,k9,{ list:=p'.list++[u],place:=p'.place.set u p'.list.length,set:=p'.set.set u K,bg:=p'.bg,en:=p'.en,mr:=p'.mr },.sl (s'.next+21) 0 (p'.list.length+1) none 1,⟨k3,k4,k5,(k7 b1 c2 (by omega) (by omega) (by omega) fun h=>(dl _ h).1 rfl).trans gb1,(k7 b3 c4 (by omega) (by omega) (by omega) fun h=>(dl _ h).2.1 rfl).trans gm,.inr ⟨s'.next+21,by simp,k6,by omega,k8⟩,he.keep (by omega) fun j h1 h2 h3=>k7 j h1 (by omega) (by omega) (by omega) fun h=>(dl _ h).2.2 h3,⟨c1,by omega,c3,by omega,c5⟩,fun j hj=>?_,de,⟨d1,d2,d3,d4,d5,d6,by omega⟩,by rw[List.length_set];exact lp,by rw[List.length_set];exact ls⟩,hadd,by simp[hlen];omega⟩
   rw[isB_sl] at hj
   subst hj
   refine⟨by omega,by omega,fun h=>?_⟩
   have:=he.lt h
   omega
  rcases hl with⟨rfl,hl⟩|⟨bl,rfl,hg,e1,e2⟩
  ·rw[hl] at key
   rw[hl,List.length_nil] at y1
   have y1:lay u [.int .i64 0] (nats p'.place)=some (nats (p'.place.set u 0)):=y1
   simp (maxSteps:=2000000) +contextual only[go_sem,↓reduceIte,r214_l2,q3,q12,q96,q97,q98,nat_lt_dec,hd,hw,hgb',o1,g,gp,gs,u1,y1,y2,Nat.mul_one,z1,z2,z3,z4,appK_some,Nat.reducePow,Nat.one_mul,hb5,hb6,appD_nils,Nat.zero_add,Nat.add_assoc,f1,f2,f3]
   refine key _ _ (fun t ht=>?_) ?_ ?_ ?_ ?_ ?_ (fun j h1 h2 h3 h4 h5=>?_) ?_ ?_
   ·obtain⟨n15,n98⟩:=hnt t ht
    simp +contextual only[go_sem,↓reduceIte,n15,n98]
   ·simp +contextual only[go_sem,↓reduceIte]
   ·simp +contextual only[go_sem,↓reduceIte]
   ·simp +contextual only[go_sem,↓reduceIte,eq_false d4,f1,f2,f3,Nat.add_assoc,z4]
   ·simp +contextual only[go_sem,↓reduceIte,eq_false d5,f1,f2,f3,Nat.add_assoc]
   ·simp +contextual only[go_sem,↓reduceIte,(fun q=>f9 (s'.next+q) (by omega):∀q,(s'.next+q=pb)=False),Nat.add_assoc,Nat.reduceAdd,(fun q=>f6 (s'.next+q) (by omega):∀q,(pb=s'.next+q)=False)];rfl
   ·have e0:∀q,(s'.next+q=j)=False:=fun q=>by simp;omega
    simp +contextual only[get_put,get_new,next_put,next_new,upto_next,upto_get,Nat.add_assoc,Nat.reduceAdd,e0,eq_false h2.symm,eq_false h3.symm,eq_false h4.symm,if_false]
   ·simp only[next_put,next_new,upto_next];omega
   ·repeat first|exact fr'|apply Fr.new|apply Fr.put|apply Fr.upto
    all_goals try simp only[next_put,next_new,upto_next]
    all_goals omega
  ·have a1:=fun (S:St) (h:S.get bl=some (.cells (nats p'.list) 3 false 0 0))=>appX' rfl h u
   have f10:∀q,(s'.next+q=bl)=False:=fun q=>by simp;omega
   simp (maxSteps:=2000000) +contextual only[go_sem,↓reduceIte,r214_l2,q3,q12,q96,q97,q98,nat_lt_dec,hd,hw,hgb',o1,g,gp,gs,u1,y1,y2,Nat.mul_one,z1,z2,z3,z4,appK_some,Nat.reducePow,Nat.one_mul,hb1,hb2,Nat.add_assoc,f1,f2,f3,f6,f7,f8,f9,f10,e1,hg,a1]
   refine key _ _ (fun t ht=>?_) ?_ ?_ ?_ ?_ ?_ (fun j h1 h2 h3 h4 h5=>?_) ?_ ?_
   ·obtain⟨n15,n98⟩:=hnt t ht
    simp +contextual only[go_sem,↓reduceIte,n15,n98]
   ·simp +contextual only[go_sem,↓reduceIte]
   ·simp +contextual only[go_sem,↓reduceIte]
   ·simp +contextual only[go_sem,↓reduceIte,eq_false d4,f1,f2,f3,f6,f7,f8,f9,f11,f12,e1,z2,z4,Nat.add_assoc]
   ·simp +contextual only[go_sem,↓reduceIte,eq_false d5,f1,f2,f3,f6,f7,f8,f9,f11,f12,e1,z2,z4,Nat.add_assoc]
   ·simp +contextual only[go_sem,↓reduceIte,(fun q=>f9 (s'.next+q) (by omega):∀q,(s'.next+q=pb)=False),Nat.add_assoc,Nat.reduceAdd,(fun q=>f6 (s'.next+q) (by omega):∀q,(pb=s'.next+q)=False)]
   ·have e0:∀q,(s'.next+q=j)=False:=fun q=>by simp;omega
    rw[isB_sl] at h5
    simp +contextual only[get_put,get_new,next_put,next_new,upto_next,upto_get,Nat.add_assoc,Nat.reduceAdd,e0,eq_false h2.symm,eq_false h3.symm,eq_false h4.symm,eq_false h5,if_false]
   ·simp only[next_put,next_new,upto_next];omega
   ·repeat first|exact fr'|apply Fr.new|apply Fr.put|apply Fr.upto
    all_goals try simp only[next_put,next_new,upto_next]
    all_goals omega
 ·have:i=G.length:=by omega
  subst this
  rw[List.drop_length,addSt] at hadd
  subst hadd
  simp (maxSteps:=2000000) +contextual only[go_sem,↓reduceIte,r214_l2,q97,q98,nat_lt_dec,Nat.lt_irrefl]
  refine hk _ _ vl' (fun t ht=>?_) M' hs hnx fr'
  have hne:∀k:Nat,98≤k→(k=t)=False:=fun k hk=>by simp;omega
  simp +contextual only[go_sem,↓reduceIte,hne]
  exact hold t ht
def Parts (s:St)(pb n bp bs N:Nat)(p:Pt):Prop :=
 (p=⟨[],p.place,p.set,[],[],[]⟩∧s.get pb=some (.cells [.nils,.sl bp 0 n (some n) 1,.sl bs 0 n (some n) 1,.nils,.nils,.nils] 285 false 0 0)∧s.get bp=some (.cells (nats p.place) 3 false 0 0)∧s.get bs=some (.cells (nats p.set) 3 false 0 0)) ∨
 ∃bl bb be bm,PtI s pb n bl bp bs bb be bm p∧N≤bl∧N≤bb∧N≤be∧N≤bm
theorem l214r {β:Type}{fin:Fl→β}{ks:List K}{Post:β→Prop}{pb n bp bs N:Nat}{p:Pt}{e:Env}{s:St}(hn:n≤2^19)(hpl:p.place.length=n)(hps:p.set.length=n)(hbg:p.bg.length≤2^20)(hmr:p.mr.length≤2^20)(g3:Env.get e 3=.ptr pb 0)
  (lo:pb<N∧bp<N∧bs<N∧pb≠bp∧pb≠bs∧bp≠bs∧N≤s.next)(h:Parts s pb n bp bs N p)(fr:Fr s)
  (hk:∀e' s' vl ve b1 b3,(∀t:Nat,t<71→Env.get e' t=Env.get e t)→MidI s' pb n bp bs N { p with bg:=p.bg++[p.list.length],mr:=p.mr++[0] } vl ve b1 b3→(∀j,j<N→j≠pb→s'.get j=s.get j)→s.next≤s'.next→Fr s'→Post (goN U fin ks e' s')) :
  Post (go U fin ks (.raw q214_1) e s):=by
 obtain⟨d1,d2,d3,d4,d5,d6,d7⟩:=lo
 rw[go_drcU d214_1]
 have hfk:=fr.at
 have hnt:∀t:Nat,t<71→(∀k:Nat,71≤k→(k=t)=False):=fun t ht=>fun k hk=>by simp;omega
 have f1:∀q,(s.next+q=pb)=False:=fun q=>by simp;omega
 have f2:∀q,(s.next+q=bp)=False:=fun q=>by simp;omega
 have f3:∀q,(s.next+q=bs)=False:=fun q=>by simp;omega
 have f6:∀b,N≤b→(pb=b)=False:=fun b hb=>by simp;omega
 have f9:∀b,N≤b→(b=pb)=False:=fun b hb=>by simp;omega
 have hN1:∀j q,j<s.next→(j=s.next+q)=False:=fun j q hj=>by simp;omega
 have hN2:∀j q,j<s.next→(s.next+q=j)=False:=fun j q hj=>by simp;omega
 have lpb:pb<s.next:=by omega
 have hN3:∀q,q≠0→(s.next+q=s.next)=False:=fun q hq=>by simp;omega
 have hN4:∀q,q≠0→(s.next=s.next+q)=False:=fun q hq=>by simp;omega
 have key:∀(E:Env) (S:St) (vl ve:AV) (b1 b3:Nat),(∀t:Nat,t<71→Env.get E t=Env.get e t) →
   S.get pb=some (.cells [vl,.sl bp 0 n (some n) 1,.sl bs 0 n (some n) 1,.sl b1 0 (p.bg.length+1) none 1,ve,.sl b3 0 (p.mr.length+1) none 1] 285 false 0 0) →
   S.get b1=some (.cells (nats (p.bg++[p.list.length])) 3 false 0 0)→S.get b3=some (.cells (nats (p.mr++[0])) 3 false 0 0)→s.next≤b1→b1<b3→b3<S.next→SlI s N p.list vl→SlI s N p.en ve→(∀j,isB vl j→¬isB ve j) →
   s.get bp=some (.cells (nats p.place) 3 false 0 0)→s.get bs=some (.cells (nats p.set) 3 false 0 0) →
   (∀j,j<s.next→j≠pb→isB vl j∨isB ve j∨j<N→S.get j=s.get j)→Fr S→Post (goN U fin ks E S):=by
  intro E S vl ve b1 b3 k1 k2 k3 k4 k5 k6 k7 k8 k9 k10 k11 k12 k13 k14
  refine hk E S vl ve b1 b3 k1 ⟨?_,?_,?_,k3,k4,?_,?_,⟨by omega,by omega,by omega,k7,by omega⟩,fun j hj=>⟨?_,?_,k10 j hj⟩,fun j hj=>⟨?_,?_⟩,⟨d1,d2,d3,d4,d5,d6,by omega⟩,hpl,hps⟩ (fun j h1 h2=>k13 j (by omega) h2 (.inr (.inr h1))) (by omega) k14
  ·rw[k2];simp only[List.length_append,List.length_singleton]
  ·exact (k13 bp (by omega) d4.symm (.inr (.inr d2))).trans k11
  ·exact (k13 bs (by omega) d5.symm (.inr (.inr d3))).trans k12
  ·exact k8.keep (by omega) fun j h1 h2 h3=>k13 j h1 (by omega) (.inl h3)
  ·exact k9.keep (by omega) fun j h1 h2 h3=>k13 j h1 (by omega) (.inr (.inl h3))
  ·have:=k8.lt hj;omega
  ·have:=k8.lt hj;omega
  ·have:=k9.lt hj;omega
  ·have:=k9.lt hj;omega
 rcases h with⟨hp,g,gp,gs⟩|⟨bl,bb,be,bm,P,n1,n2,n3,n4⟩
 ·obtain⟨L,pl,st,bg,en,mr⟩:=p
  simp only[Pt.mk.injEq] at hp
  obtain⟨rfl,-,-,rfl,rfl,rfl⟩:=hp
  simp (maxSteps:=2000000) +contextual only[go_sem,↓reduceIte,g3,g,appD_nils,appK_some,Nat.mul_one,Nat.one_mul,Nat.reducePow,Nat.zero_add,Nat.add_assoc,hfk,f1,List.length_nil,List.nil_append,hN1,hN2,hN3,hN4,Option.isNone_none]
  refine key _ _ .nils .nils (s.next+25) (s.next+26) (fun t ht=>?_) ?_ ?_ ?_ (by omega) (by omega) ?_ (.inl ⟨rfl,rfl⟩) (.inl ⟨rfl,rfl⟩) (fun j h=>absurd h (isB_nils j)) gp gs (fun j h1 h2 _=>?_) ?_
  ·have hne:=hnt t ht
   simp +contextual only[go_sem,↓reduceIte,hne]
  ·simp +contextual only[go_sem,↓reduceIte,f1,g,Nat.add_assoc]
  ·simp +contextual [go_sem,↓reduceIte,lpb,f9,f6,d7,hN1,hN2,hN3,hN4,Nat.add_assoc];rfl
  ·simp +contextual [go_sem,↓reduceIte,lpb,f9,f6,d7,hN1,hN2,hN3,hN4,Nat.add_assoc];rfl
  ·simp only[next_put,next_new,upto_next];omega
  ·have e0:∀q,(s.next+q=j)=False:=fun q=>by simp;omega
   simp +contextual only[get_put,get_new,next_put,next_new,upto_next,upto_get,Nat.add_assoc,Nat.reduceAdd,e0,eq_false h2.symm,if_false]
  ·repeat first|exact fr|apply Fr.new|apply Fr.put|apply Fr.upto
   all_goals try simp only[next_put,next_new,upto_next]
   all_goals omega
 ·obtain⟨g,gl,gp,gs,gb,ge,gm,ne,lt⟩:=P
  have A:=Ap.of ne
  have lt2:=lt bl (by simp);have lt5:=lt bb (by simp);have lt6:=lt be (by simp);have lt7:=lt bm (by simp)
  have a1:=fun (S:St) (h:S.get bb=some (.cells (nats p.bg) 3 false 0 0))=>appX rfl h p.list.length
  have a3:=fun (S:St) (h:S.get bm=some (.cells (nats p.mr) 3 false 0 0))=>appX0 rfl h
  have hb1:(p.bg.length+1)*8≤1099511627776:=by omega
  have hb2:p.bg.length+1≤1099511627776:=by omega
  have hb5:(p.mr.length+1)*8≤1099511627776:=by omega
  have hb6:p.mr.length+1≤1099511627776:=by omega
  have z1:(bb=pb)=False:=eq_false A.n4.symm
  have z2:(bm=pb)=False:=eq_false A.n6.symm
  have z3:(bb=bm)=False:=eq_false A.n20
  have z4:(pb=bb)=False:=eq_false A.n4
  have z5:(pb=bm)=False:=eq_false A.n6
  have z6:(bm=bb)=False:=eq_false A.n20.symm
  simp (maxSteps:=2000000) +contextual only[go_sem,↓reduceIte,g3,g,gb,gm,appK_some,Nat.mul_one,Nat.one_mul,Nat.reducePow,Nat.zero_add,Nat.add_assoc,hfk,f1,a1,a3,hb1,hb2,hb5,hb6,z1,z2,z3,z4,z5,z6,hN1,hN2,hN3,hN4,lt5,lt7,Option.isNone_none]
  refine key _ _ (.sl bl 0 p.list.length none 1) (.sl be 0 p.en.length none 1) (s.next+25) (s.next+26) (fun t ht=>?_) ?_ ?_ ?_ (by omega) (by omega) ?_ (.inr ⟨bl,rfl,gl,n1,lt2⟩) (.inr ⟨be,rfl,ge,n3,lt6⟩) (fun j h=>?_) gp gs (fun j h1 h2 h3=>?_) ?_
  ·have hne:=hnt t ht
   simp +contextual only[go_sem,↓reduceIte,hne]
  ·rw[hpl,hps];simp +contextual only[go_sem,↓reduceIte]
  ·simp +contextual [go_sem,↓reduceIte,lpb,f9,f6,d7,hN1,hN2,hN3,hN4,lt5,lt7,Nat.add_assoc]
  ·simp +contextual [go_sem,↓reduceIte,lpb,f9,f6,d7,hN1,hN2,hN3,hN4,lt5,lt7,Nat.add_assoc]
  ·simp only[next_put,next_new,upto_next];omega
  ·rw[isB_sl] at h ⊢
   subst h
   exact A.n10.symm
  ·have e0:∀q,(s.next+q=j)=False:=fun q=>by simp;omega
   have e1:(bb=j)=False:=by
    simp only[eq_iff_iff,iff_false]
    rintro rfl
    rw[isB_sl,isB_sl] at h3
    have:=A.n9;have:=A.n19
    omega
   have e2:(bm=j)=False:=by
    simp only[eq_iff_iff,iff_false]
    rintro rfl
    rw[isB_sl,isB_sl] at h3
    have:=A.n11;have:=A.n21
    omega
   simp +contextual only[get_put,get_new,next_put,next_new,upto_next,upto_get,Nat.add_assoc,Nat.reduceAdd,e0,e1,e2,eq_false h2.symm,if_false]
  ·repeat first|exact fr|apply Fr.new|apply Fr.put|apply Fr.upto
   all_goals try simp only[next_put,next_new,upto_next]
   all_goals omega
theorem addSt_with (c:Nat)(x y z:List Nat):∀(l:List Nat) (p:Pt),addSt c l { p with bg:=x,mr:=y,en:=z }={ addSt c l p with bg:=x,mr:=y,en:=z }
 |[],_=>rfl
 |u::l,p=>by
  rw[addSt,addSt]
  exact addSt_with c x y z l { p with place:=p.place.set u p.list.length,set:=p.set.set u c,list:=p.list++[u] }
def dE:RC:=(.drw 15 [⟨some 131,none,none,false,.mov (.t 3)⟩,
 ⟨some 132,none,none,false,.mov (.t 3)⟩,
 ⟨some 133,none,none,false,.raw (.nilCheck (.tmp 132))⟩,
 ⟨some 134,none,none,false,.fa 4 (.t 133)⟩,
 ⟨some 135,none,none,false,.ld1 (.t 134)⟩,
 ⟨some 136,none,none,false,.mov (.t 3)⟩,
 ⟨some 137,none,none,false,.raw (.nilCheck (.tmp 136))⟩,
 ⟨some 138,none,none,false,.fa 0 (.t 137)⟩,
 ⟨some 139,none,none,false,.ld1 (.t 138)⟩,
 ⟨some 140,none,none,false,.lenL (.t 139)⟩,
 ⟨some 141,none,some 10,false,.bsl 3 1 1 [(.int .i64 0)] [(0,1,(.t 140))]⟩,
 ⟨some 142,none,none,true,.app 3 1 8 (.t 135) (.t 141)⟩,
 ⟨some 143,none,none,false,.raw (.nilCheck (.tmp 131))⟩,
 ⟨some 144,none,none,false,.fa 4 (.t 143)⟩,
 ⟨none,none,none,true,.st 1 (.t 144) (.t 142)⟩])
theorem l214e {β:Type}{fin:Fl→β}{ks:List K}{Post:β→Prop}{pb n bp bs N b1 b3:Nat}{p:Pt}{vl ve:AV}{e:Env}{s:St}(hn:n≤2^19)(hl0:p.list≠[])(hen:p.en.length≤2^20)(g3:Env.get e 3=.ptr pb 0)(M:MidI s pb n bp bs N p vl ve b1 b3)(fr:Fr s)
  (hk:∀e' s',(∀t:Nat,t<131→Env.get e' t=Env.get e t)→Parts s' pb n bp bs N { p with en:=p.en++[p.list.length] }→(∀j,j<N→j≠pb→s'.get j=s.get j)→s.next≤s'.next→Fr s'→Post (goN U fin ks e' s')) :
  Post (go U fin ks dE e s):=by
 obtain⟨g,gp,gs,gb1,gm,hl,he,⟨c1,c2,c3,c4,c5⟩,dl,de,⟨d1,d2,d3,d4,d5,d6,d7⟩,lp,ls⟩:=M
 have hnt:∀t:Nat,t<131→(∀k:Nat,131≤k→(k=t)=False):=fun t ht=>fun k hk=>by simp;omega
 have lpb:pb<s.next:=by omega
 have hfk:=fr.at
 have hN1:∀j q,j<s.next→(j=s.next+q)=False:=fun j q hj=>by simp;omega
 have hN2:∀j q,j<s.next→(s.next+q=j)=False:=fun j q hj=>by simp;omega
 have f1:∀q,(s.next+q=pb)=False:=fun q=>by simp;omega
 obtain⟨bl,rfl,hg,e1,e2⟩:∃b,vl=.sl b 0 p.list.length none 1∧s.get b=some (.cells (nats p.list) 3 false 0 0)∧N≤b∧b<s.next:=by
  rcases hl with⟨_,h⟩|h
  ·exact absurd h hl0
  ·exact h
 obtain⟨x1,x2,x3⟩:=dl bl ((isB_sl _ _ _).2 rfl)
 have key:∀(E:Env) (S:St) (be:Nat),(∀t:Nat,t<131→Env.get E t=Env.get e t) →
   S.get pb=some (.cells [.sl bl 0 p.list.length none 1,.sl bp 0 n (some n) 1,.sl bs 0 n (some n) 1,.sl b1 0 p.bg.length none 1,.sl be 0 (p.en.length+1) none 1,.sl b3 0 p.mr.length none 1] 285 false 0 0) →
   S.get be=some (.cells (nats (p.en++[p.list.length])) 3 false 0 0)→s.next≤be→be<S.next →
   (∀j,j<s.next→j≠pb→¬isB ve j→S.get j=s.get j)→Fr S→Post (goN U fin ks E S):=by
  intro E S be k1 k2 k3 k4 k5 k6 k7
  have hve:∀j,j<N→¬isB ve j:=fun j hj h=>by have:=he.lt h;omega
  refine hk E S k1 (.inr ⟨bl,b1,be,b3,⟨?_,?_,?_,?_,?_,k3,?_,?_,?_⟩,e1,c1,by omega,c3⟩) (fun j h1 h2=>k6 j (by omega) h2 (hve j h1)) (by omega) k7
  ·simp only[k2,lp,ls,List.length_append,List.length_singleton]
  ·exact (k6 bl e2 (by omega) x3).trans hg
  ·exact (k6 bp (by omega) (by omega) (hve bp d2)).trans gp
  ·exact (k6 bs (by omega) (by omega) (hve bs d3)).trans gs
  ·exact (k6 b1 c2 (by omega) fun h=>(de _ h).1 rfl).trans gb1
  ·exact (k6 b3 c4 (by omega) fun h=>(de _ h).2 rfl).trans gm
  ·simp only[List.nodup_cons,List.mem_cons,List.not_mem_nil,not_or,or_false,List.nodup_nil,and_true,not_false_eq_true]
   refine⟨⟨?_,d4,d5,?_,?_,?_⟩,⟨?_,?_,x1,?_,x2⟩,⟨d6,?_,?_,?_⟩,⟨?_,?_,?_⟩,⟨?_,?_⟩,?_⟩ <;> omega
  ·intro j hj
   simp only[List.mem_cons,List.not_mem_nil,or_false] at hj
   rcases hj with rfl|rfl|rfl|rfl|rfl|rfl|rfl <;> omega
 rcases he with⟨rfl,hh⟩|⟨be,rfl,hge,e3,e4⟩
 ·have hb1:(0+1)*8≤1099511627776:=by omega
  simp (maxSteps:=2000000) +contextual only[go_sem,↓reduceIte,dE,g3,g,appK_some,appD_nils,Nat.mul_one,Nat.one_mul,Nat.reducePow,Nat.zero_add,Nat.add_assoc,hfk,f1,hN1,hN2,lpb,Option.isNone_none]
  refine key _ _ (s.next+15) (fun t ht=>?_) ?_ ?_ (by omega) ?_ (fun j h1 h2 h3=>?_) ?_
  ·have hne:=hnt t ht
   simp +contextual only[go_sem,↓reduceIte,hne]
  ·simp +contextual only[go_sem,↓reduceIte,hh]
  ·rw[hh];simp +contextual [go_sem,↓reduceIte,hN1,hN2,lpb,Nat.add_assoc];rfl
  ·simp only[next_put,next_new,upto_next];omega
  ·have e0:∀q,(s.next+q=j)=False:=fun q=>by simp;omega
   simp +contextual only[get_put,get_new,next_put,next_new,upto_next,upto_get,Nat.add_assoc,Nat.reduceAdd,e0,eq_false h2.symm,if_false]
  ·repeat first|exact fr|apply Fr.new|apply Fr.put|apply Fr.upto
   all_goals try simp only[next_put,next_new,upto_next]
   all_goals omega
 ·have hb1:(p.en.length+1)*8≤1099511627776:=by omega
  have hb2:p.en.length+1≤1099511627776:=by omega
  have a1:=fun (S:St) (h:S.get be=some (.cells (nats p.en) 3 false 0 0))=>appX rfl h p.list.length
  have z1:(be=pb)=False:=by simp;omega
  have z2:(pb=be)=False:=by simp;omega
  simp (maxSteps:=2000000) +contextual only[go_sem,↓reduceIte,dE,g3,g,appK_some,a1,hge,Nat.mul_one,Nat.one_mul,Nat.reducePow,Nat.zero_add,Nat.add_assoc,hfk,f1,hN1,hN2,lpb,e4,hb1,hb2,z1,z2,Option.isNone_none]
  refine key _ _ (s.next+15) (fun t ht=>?_) ?_ ?_ (by omega) ?_ (fun j h1 h2 h3=>?_) ?_
  ·have hne:=hnt t ht
   simp +contextual only[go_sem,↓reduceIte,hne]
  ·simp +contextual only[go_sem,↓reduceIte]
  ·simp +contextual [go_sem,↓reduceIte,hN1,hN2,lpb,e4,Nat.add_assoc]
  ·simp only[next_put,next_new,upto_next];omega
  ·have e0:∀q,(s.next+q=j)=False:=fun q=>by simp;omega
   rw[isB_sl] at h3
   simp +contextual only[get_put,get_new,next_put,next_new,upto_next,upto_get,Nat.add_assoc,Nat.reduceAdd,e0,eq_false h2.symm,eq_false h3,if_false]
  ·repeat first|exact fr|apply Fr.new|apply Fr.put|apply Fr.upto
   all_goals try simp only[next_put,next_new,upto_next]
   all_goals omega
theorem addSt_list (c:Nat):∀(l:List Nat) (p:Pt),(addSt c l p).list=p.list++l
 |[],p=>by simp[addSt]
 |u::l,p=>by rw[addSt,addSt_list c l];simp
theorem addSt_rest (c:Nat):∀(l:List Nat) (p:Pt),(addSt c l p).bg=p.bg∧(addSt c l p).en=p.en∧(addSt c l p).mr=p.mr∧(addSt c l p).place.length=p.place.length∧(addSt c l p).set.length=p.set.length
 |[],p=>by simp[addSt]
 |u::l,p=>by
  have ih:=addSt_rest c l { p with place:=p.place.set u p.list.length,set:=p.set.set u c,list:=p.list++[u] }
  rw[addSt]
  simpa using ih
theorem l214d {β:Type}{fin:Fl→β}{ks:List K}{Post:β→Prop}{κ:Nat→Str}{pb n bp bs m N:Nat}{bl:List Nat}{vo:AV}{e:Env}{s:St}{p:Pt}(hn:n≤2^8)(g3:Env.get e 3=.ptr pb 0)(g4:Env.get e 4=.map m)(g64:Env.get e 64=vo)(g65:Env.get e 65=.int .i64 (ordK κ n).length)(g66:Env.get e 66=.int .i64 (0:Nat))
  (G:Grp s m κ n bl vo)(lo:pb<m∧bp<m∧bs<m∧pb≠bp∧pb≠bs∧bp≠bs∧m<s.next)
  (hp:p=⟨[],List.replicate n 0,List.replicate n 0,[],[],[]⟩)(h:Parts s pb n bp bs s.next p)(fr:Fr s)
  (hk:∀e' s',(∀t:Nat,t<12→Env.get e' t=Env.get e t)→Parts s' pb n bp bs s.next (rowsP κ n)→(∀j,j<m→j≠pb→j≠bp→j≠bs→s'.get j=s.get j)→s.next≤s'.next→Fr s'→Post (goN U fin ks e' s')) :
  Post (goL U fin (.bk 4::ks) r214_l3 e s):=by
 have hol:=ordK_len κ n
 obtain⟨d1,d2,d3,d4,d5,d6,d7⟩:=lo
 refine loop_ex (σ:=Nat) (fun i=>(ordK κ n).length-i) (fun i e' s'=>i≤(ordK κ n).length∧(∀t:Nat,t<12∨15<t∧t<66→Env.get e' t=Env.get e t)∧Env.get e' 66=.int .i64 (i:Nat)∧(∀j,j<s.next→j≠pb→j≠bp→j≠bs→s'.get j=s.get j)∧s.next≤s'.next∧Fr s' ∧
   ∃p',Parts s' pb n bp bs s.next p'∧fillP κ n ((ordK κ n).drop i) p'=rowsP κ n∧p'.place.length=n∧p'.set.length=n∧p'.bg.length=i∧p'.mr.length=i∧p'.en.length=i∧p'.list.length≤i*n) 0 ?_
  ⟨Nat.zero_le _,fun _ _=>rfl,g66,fun _ _ _ _ _=>rfl,Nat.le_refl _,fr,p,h,by rw[hp];rfl,by rw[hp];simp,by rw[hp];simp,by rw[hp];rfl,by rw[hp];rfl,by rw[hp];rfl,by rw[hp];simp⟩
 rintro Lp i e' s' ⟨hi,hold,q66,hs,hnx,fr',p',P,hfill,w1,w2,w3,w4,w5,w6⟩ IH
 have q3:=(hold 3 (by omega)).trans g3
 have q4:=(hold 4 (by omega)).trans g4
 have q64:=(hold 64 (by omega)).trans g64
 have q65:=(hold 65 (by omega)).trans g65
 by_cases hd:i<(ordK κ n).length
 ·obtain⟨Gm,Glen,Gnd,Gblk,Grow⟩:=G
  have hw:=wrap_succ hd (by omega)
  obtain⟨bo,rfl,ho,e1,e2⟩:∃b,vo=.sl b 0 (ordK κ n).length none 1∧s.get b=some (.cells (strs (ordK κ n)) 9 false 0 0)∧m+1≤b∧b<s.next:=by
   rcases Grow with⟨h,_,_⟩|⟨_,_,b,h1,h2,h3,h4⟩
   ·omega
   ·exact⟨b,h3,h4,h1,h2⟩
  have ho':=(hs bo e2 (by omega) (by omega) (by omega)).trans ho
  have o1:(strs (ordK κ n))[i]? = some (.str (ordK κ n)[i]):=by unfold strs;rw[List.getElem?_map,List.getElem?_eq_getElem hd];rfl
  have hib:i<bl.length:=by omega
  obtain⟨b1,b2,b3⟩:=Gblk i hib hd
  have hex:∃u,u<n∧κ u=(ordK κ n)[i]:=(ordK_mem κ _ n).1 (List.getElem_mem hd)
  have hgl:=grp_len κ (ordK κ n)[i] n
  have hpos:(grp κ (ordK κ n)[i] n)≠[]:=by
   obtain⟨u,h1,h2⟩:=hex
   exact List.ne_nil_of_mem ((grp_mem κ _ n u).2 ⟨h1,h2⟩)
  have hge:=getE_at (len:=fun k=>(grp κ k n).length) (bs:=bl) (ordK_nd κ n) Glen hd
  have lk:=fun (S:St) (h:S.get m=some (.map (ent (esOf (fun k=>(grp κ k n).length) (ordK κ n) bl)) false))=>lookup310 h (ordK κ n)[i]
  rw[hge] at lk
  simp only[Option.getD_some] at lk
  rw[List.drop_eq_getElem_cons hd,fillP] at hfill
  have hmul:i*n≤2^8*2^8:=Nat.mul_le_mul (by omega) hn
  simp (maxSteps:=2000000) +contextual only[go_sem,↓reduceIte,r214_l3,q64,q65,q66,nat_lt_dec,hd,ho',o1,Nat.mul_one]
  refine l214r (p:=p') (s:=s') (by omega) w1 w2 (by omega) (by omega) ?_ ⟨by omega,by omega,by omega,d4,d5,d6,hnx⟩ P fr' ?_
  ·simp +contextual only[go_sem,↓reduceIte,q3]
  intro e2' s2 vl ve c1 c3 h2a M hs2 hnx2 fr2
  have p3:Env.get e2' 3=.ptr pb 0:=by rw[h2a 3 (by omega)];simp +contextual only[go_sem,↓reduceIte,q3]
  have p4:Env.get e2' 4=.map m:=by rw[h2a 4 (by omega)];simp +contextual only[go_sem,↓reduceIte,q4]
  have p12:Env.get e2' 12=.int .i64 (i:Nat):=by rw[h2a 12 (by omega)];simp +contextual only[go_sem,↓reduceIte]
  have p13:Env.get e2' 13=.str (ordK κ n)[i]:=by rw[h2a 13 (by omega)];simp +contextual only[go_sem,↓reduceIte]
  have um:s2.get m=some (.map (ent (esOf (fun k=>(grp κ k n).length) (ordK κ n) bl)) false):=(hs2 m d7 (by omega)).trans ((hs m d7 (by omega) (by omega) (by omega)).trans Gm)
  simp (maxSteps:=2000000) +contextual only[go_sem,↓reduceIte,p4,p13,um,lk]
  refine l214c (K:=i) (gb:=bl[i]) (G:=grp κ (ordK κ n)[i] n) (by omega) (fun u hu=>((grp_mem _ _ _ _).1 hu).1) (by simp only;omega) (by omega) ?_ ?_ ?_ ?_ ?_ ((hs2 _ b2 (by omega)).trans ((hs _ b2 (by omega) (by omega) (by omega)).trans b3)) b2 ⟨by omega,by omega,by omega⟩ M fr2 ?_
  case refine_6 =>
   intro e3 s3 vl' h3a M3 hs3 hnx3 fr3
   have r3:Env.get e3 3=.ptr pb 0:=by rw[h3a 3 (by omega)];simp +contextual only[go_sem,↓reduceIte,p3]
   rw[addSt_with] at M3
   have hal:=addSt_list i (grp κ (ordK κ n)[i] n) p'
   obtain⟨t1,t2,t3,t4,t5⟩:=addSt_rest i (grp κ (ordK κ n)[i] n) p'
   rw[w3] at hfill
   refine l214e (by omega) ?_ (by simp only[w5];omega) r3 M3 fr3 ?_
   ·simp only[hal]
    intro h
    exact hpos (List.append_eq_nil_iff.1 h).2
   ·intro e4 s4 h4a P4 hs4 hnx4 fr4
    have o66:Env.get e4 66=.int .i64 (i:Nat):=by
     rw[h4a 66 (by omega),h3a 66 (by omega)]
     simp +contextual only[go_sem,↓reduceIte]
     rw[h2a 66 (by omega)]
     simp +contextual only[go_sem,↓reduceIte,q66]
    simp (maxSteps:=2000000) +contextual only[go_sem,↓reduceIte,o66,hw]
    refine IH (i+1) _ _ (by omega) ⟨by omega,fun t ht=>?_,?_,fun j h1 h2 h3 h4=>?_,by omega,fr4,_,P4,?_,?_,?_,?_,?_,?_,?_⟩
    ·have hne:∀k:Nat,66≤k→(k=t)=False:=fun k hk=>by simp;omega
     simp +contextual only[go_sem,↓reduceIte,hne]
     rw[h4a t (by omega),h3a t (by omega)]
     simp +contextual only[go_sem,↓reduceIte,hne]
     rw[h2a t (by omega)]
     have hne2:(12=t)=False:=by simp;omega
     have hne3:(13=t)=False:=by simp;omega
     simp +contextual only[go_sem,↓reduceIte,hne,hne2,hne3]
     exact hold t ht
    ·simp +contextual only[go_sem,↓reduceIte]
    ·rw[hs4 j h1 h2,hs3 j h1 h2 h3 h4,hs2 j h1 h2,hs j h1 h2 h3 h4]
    ·exact hfill
    ·exact t4.trans w1
    ·exact t5.trans w2
    ·simp[w3]
    ·simp[w4]
    ·simp[w5]
    ·simp only[hal,List.length_append,Nat.succ_mul];omega
  all_goals simp +contextual only[go_sem,↓reduceIte,p3,p12]
  all_goals rfl
 ·have:i=(ordK κ n).length:=by omega
  subst this
  rw[List.drop_length,fillP] at hfill
  subst hfill
  simp (maxSteps:=2000000) +contextual only[go_sem,↓reduceIte,r214_l3,q65,q66,nat_lt_dec,Nat.lt_irrefl]
  refine hk _ _ (fun t ht=>?_) P (fun j h1 h2 h3 h4=>hs j (by omega) h2 h3 h4) hnx fr'
  have hne:∀k:Nat,66≤k→(k=t)=False:=fun k hk=>by simp;omega
  simp +contextual only[go_sem,↓reduceIte,hne]
  exact hold t (by omega)
theorem rop_mksN {base i a:Nat}{e:Env}{s:St}{n:Nat}(h:Env.get e a=.int .i64 (n:Int))(hn:n≤2^20) :
  rop U base (some i) e s (.raw (.makeSlice 40 (.tmp a) (.tmp a)))=some (.sl (base+i) 0 n (some n) 1,s.put (base+i) (.cells (nats (List.replicate n 0)) 3 false 0 0)):=by
 have h40:U.und 40=some (.slice 3):=by kernel_rfl
 have hz:zero U 3=some (.int .i64 0):=by kernel_rfl
 have hi:(U.inf 3).map (fun i=>(i.bytes,i.size))=some (8,1):=by kernel_rfl
 have e1:nats (List.replicate n 0)=List.replicate n (.int .i64 0):=by simp[nats,nIs,ints]
 cases hj:U.inf 3 with
 |none=>rw[hj] at hi;cases hi
 |some j =>
  rw[hj] at hi
  simp only[Option.map_some,Option.some.injEq,Prod.mk.injEq] at hi
  obtain⟨h1,h2⟩:=hi
  rw[e1,←repeatL_one]
  simp only[rop,rawR,opA,eval,h,h40,hj,hz]
  rw[if_pos ⟨by omega,by omega,by rw[h1];omega,by omega,by rw[h2];rfl,by omega⟩,h2]
  rfl
def P214 (s0:St)(n:Nat)(p:Pt)(r:Option (AV×St)):Prop :=
 ∃s' pb bl bp bs bb be bm,r=some (.ptr pb 0,s')∧PtI s' pb n bl bp bs bb be bm p∧s0.next≤pb∧s0.next≤bl∧s0.next≤bp∧s0.next≤bs∧s0.next≤bb∧s0.next≤be∧s0.next≤bm∧s0.next≤s'.next∧Fr s'∧∀j,j<s0.next→s'.get j=s0.get j
theorem c214 {a:Auto}(ha:a.ok){s:St}(fr:Fr s):P214 s a.next.length (rowsP (kapA a) a.next.length) (cal U 214 [encA a] s):=by
 suffices hgo:P214 s a.next.length (rowsP (kapA a) a.next.length) (go U (finB U [.tmp 2]) [] r214 (bindArgs 0 [encA a] .nil) s) by
  obtain⟨s',pb,bl,bp,bs,bb,be,bm,h1,h2⟩:=hgo
  exact⟨s',pb,bl,bp,bs,bb,be,bm,kept_go k214 (by kernel_rfl) h1,h2⟩
 have hpos:=ha.pos
 have hfew:=ha.few
 have hn20:a.next.length≤2^20:=by omega
 have hfk:=fr.at
 have hN1:∀j q,j<s.next→(j=s.next+q)=False:=fun j q hj=>by simp;omega
 have hN2:∀j q,j<s.next→(s.next+q=j)=False:=fun j q hj=>by simp;omega
 have hN3:∀q,q≠0→(s.next+q=s.next)=False:=fun q hq=>by simp;omega
 have hN4:∀q,q≠0→(s.next=s.next+q)=False:=fun q hq=>by simp;omega
 have mk:=fun (base i t:Nat) (e:Env) (S:St) (h:Env.get e t=.int .i64 (a.next.length:Int))=>rop_mksN (base:=base) (i:=i) (s:=S) h hn20
 have hl:=lenL_encS a.nNl (a.next.map encRow)
 rw[List.length_map] at hl
 have hlf:=lenL_encS a.fNl (a.fires.map encFRow)
 rw[List.length_map] at hlf
 have hfl:=ha.fl
 rw[encA_eq]
 simp (maxSteps:=2000000) +contextual only[go_sem,↓reduceIte,r214,go_drcU d214_0,Nat.add_assoc,hfk,hN1,hN2,hN3,hN4,↓mk,encN,encFs,hl,hlf]
 have frS:∀x y z w v,Fr ((((((s.new x).upto (s.next+12)).put (s.next+4) y).put (s.next+8) z).put (s.next+10) w).new v):=fun x y z w v=>by
  repeat first|exact fr|apply Fr.new|apply Fr.put|apply Fr.upto
  all_goals try simp only[next_put,next_new,upto_next]
  all_goals omega
 refine l214b ha (m:=s.next+12) ?_ ?_ ?_ ?_ ?_ ?_ ?_ (frS _ _ _ _ _) ?_
 case refine_8 =>
  intro e1 s1 bl vo h1a h1v G hs1 hnx1 fr1
  have p3:Env.get e1 3=.ptr (s.next+10) 0:=by rw[h1a 3 (by omega)];simp +contextual only[go_sem,↓reduceIte]
  have p4:Env.get e1 4=.map (s.next+12):=by rw[h1a 4 (by omega)];simp +contextual only[go_sem,↓reduceIte]
  have hlo:=G.row.len
  simp only[next_put,next_new,upto_next] at hnx1
  have hs0:∀j,j<s.next→s1.get j=s.get j:=fun j hj=>by
   rw[hs1 j (by omega)]
   have e0:∀q,(s.next+q=j)=False:=fun q=>by simp;omega
   have e2:(s.next=j)=False:=by simp;omega
   simp +contextual only[get_put,get_new,next_put,next_new,upto_next,upto_get,Nat.add_assoc,Nat.reduceAdd,e0,e2,if_false]
  have v10:s1.get (s.next+10)=some (.cells [.nils,.sl (s.next+4) 0 a.next.length (some a.next.length) 1,.sl (s.next+8) 0 a.next.length (some a.next.length) 1,.nils,.nils,.nils] 285 false 0 0):=by
   rw[hs1 _ (by omega)]
   simp +contextual [go_sem,↓reduceIte]
  have v4:s1.get (s.next+4)=some (.cells (nats (List.replicate a.next.length 0)) 3 false 0 0):=by
   rw[hs1 _ (by omega)]
   simp +contextual [go_sem,↓reduceIte]
  have v8:s1.get (s.next+8)=some (.cells (nats (List.replicate a.next.length 0)) 3 false 0 0):=by
   rw[hs1 _ (by omega)]
   simp +contextual [go_sem,↓reduceIte]
  simp (maxSteps:=2000000) +contextual only[go_sem,↓reduceIte,h1v,hlo]
  refine l214d (Post:=P214 s a.next.length (rowsP (kapA a) a.next.length)) (pb:=s.next+10) (bp:=s.next+4) (bs:=s.next+8) (m:=s.next+12) (N:=0) (p:=⟨[],List.replicate a.next.length 0,List.replicate a.next.length 0,[],[],[]⟩) (by omega) ?_ ?_ ?_ ?_ ?_ G ⟨by omega,by omega,by omega,by omega,by omega,by omega,by omega⟩ rfl (.inl ⟨rfl,v10,v4,v8⟩) fr1 ?_
  case refine_6 =>
   intro e2 s2 h2a P hs2 hnx2 fr2
   have p3:Env.get e2 3=.ptr (s.next+10) 0:=by rw[h2a 3 (by omega)];simp +contextual only[go_sem,↓reduceIte,p3]
   simp (maxSteps:=2000000) +contextual only[go_sem,↓reduceIte,p3]
   rcases P with⟨hP,_⟩|⟨c1,c2,c3,c4,Q,n1,n2,n3,n4⟩
   ·have:=(rows_fil (kapA a) a.next.length).st 0 hpos ((ordK_mem _ _ _).2 ⟨0,hpos,rfl⟩)
    rw[hP] at this
    have:=this.1
    simp at this
   ·exact⟨s2,s.next+10,c1,s.next+4,s.next+8,c2,c3,c4,rfl,Q,by omega,by omega,by omega,by omega,by omega,by omega,by omega,by omega,fr2,fun j hj=>by rw[hs2 j (by omega) (by omega) (by omega) (by omega),hs0 j hj]⟩
  all_goals simp +contextual only[go_sem,↓reduceIte,p3,p4,h1v]
  all_goals rfl
 all_goals try simp only[next_put,next_new,upto_next]
 all_goals try simp +contextual [go_sem,↓reduceIte]
theorem k215' (args:List AV)(s:St):callK U (calV U 215 args) 215 args s=cal U 215 args s:=(callK_eq U 215 args s).symm
theorem grab_seg:∀(k f:Nat) (l:List AV),f+k≤l.length→grab k f l=some ((l.drop f).take k)
 |0,f,l,_=>by rw[grab_zero];simp
 |k+1,f,[],h=>by simp at h
 |k+1,0,x::l,h=>by
  rw[grab_head,grab_seg k 0 l (by simp at h ⊢;omega)]
  rfl
 |k+1,f+1,x::l,h=>by
  rw[grab_tail,grab_seg (k+1) f l (by simp at h ⊢;omega)]
  rfl
theorem nats_drop (L:List Nat)(f k:Nat):((nats L).drop f).take k=nats ((L.drop f).take k):=by
 unfold nats nIs ints
 simp only[List.map_drop,List.map_take]
theorem appD_slk {t:TypeId}{n m:Nat}{new:List AV}{b len k:Nat}{s:St}{cs:List AV}{lo hi:Nat}(hg:s.get b=some (.cells cs t false lo hi))(hl:cs.length=len*n)(hk:¬len+m≤k) :
  appD t n m new (.sl b 0 len (some k) n) s=some (.sl s.next 0 (len+m) none n,s.new (.cells (cs++new) t false 0 0)):=by
 simp only[appD,St.cells,hg]
 rw[←hl,grab_all]
 simp only
 rw[if_neg hk]
theorem eqn40 (b o l z:Nat)(c:Option Nat):binA U .eql 40 true (.sl b o l c z) .nils=some (.bool false):=by
 have h:U.und 40=some (.slice 3):=by kernel_rfl
 simp only[binA,eqTop,eqT,h]
theorem c215 {s:St}{b f k:Nat}{cap:Option Nat}{L:List Nat}(hg:s.get b=some (.cells (nats L) 3 false 0 0))(hb:b<s.next)(hf:f+k≤L.length)(hk:0<k)(hL:L.length≤2^20) :
  cal U 215 [.sl b f k cap 1] s=some (.sl (s.next+1) 0 k none 1,(s.new (.cells [] 3 false 0 0)).new (.cells (nats ((L.drop f).take k)) 3 false 0 0)):=by
 refine kept_go k215 (by kernel_rfl) ?_
 have hgr:grab k f (nats L)=some (nats ((L.drop f).take k)):=by rw[grab_seg _ _ _ (by rw[nats_len];omega),nats_drop]
 have hsr:∀S:St,S.get b=some (.cells (nats L) 3 false 0 0)→sourceA 1 (.sl b f k cap 1) S=some (k,nats ((L.drop f).take k)):=fun S h=>by
  rw[source_sl,Nat.mul_one,h]
  simp only[srcK,cellsOf,hgr,srcG]
 have hl:(nats ((L.drop f).take k)).length=k*1:=by rw[nats_len];simp;omega
 have hap:∀S:St,S.get s.next=some (.cells [] 3 false 0 0)→appK 3 1 8 (.sl s.next 0 0 (some 0) 1) (some (k,nats ((L.drop f).take k))) S=some (.sl S.next 0 (0+k) none 1,S.new (.cells ([]++nats ((L.drop f).take k)) 3 false 0 0)):=fun S h=>by
  rw[appK_some hl (by simp only[lenA_sl];omega) (by simp only[lenA_sl];omega) (by omega),appD_slk h rfl (by omega)]
 have z:(s.next=b)=False:=by simp;omega
 simp (maxSteps:=2000000) +contextual only[go_sem,↓reduceIte,r215,eqn40,hg,hsr,hap,z,Nat.zero_add,List.nil_append]
def SlJ (s:St)(N:Nat)(L:List Nat)(v:AV):Prop:=(v=.nils∧L=[])∨∃b R,v=.sl b 0 L.length none 1∧s.get b=some (.cells (nats (L++R)) 3 false 0 0)∧N≤b∧b<s.next
theorem SlJ.keep {s s':St}{N:Nat}{L:List Nat}{v:AV}(h:SlJ s N L v)(hn:s.next≤s'.next)(hg:∀j,j<s.next→N≤j→isB v j→s'.get j=s.get j):SlJ s' N L v:=by
 rcases h with h|⟨b,R,h1,h2,h3,h4⟩
 ·exact .inl h
 ·exact .inr ⟨b,R,h1,by rw[hg b h4 h3 ⟨_,h1⟩];exact h2,h3,by omega⟩
theorem SlJ.lt {s:St}{N:Nat}{L:List Nat}{v:AV}(h:SlJ s N L v){j:Nat}(hj:isB v j):N≤j∧j<s.next:=by
 rcases h with⟨h,_⟩|⟨b,R,h1,h2,h3,h4⟩
 ·rw[h] at hj;exact absurd hj (isB_nils j)
 ·rw[h1,isB_sl] at hj;subst hj;exact⟨h3,h4⟩
theorem SlJ.lenA {s:St}{N:Nat}{L:List Nat}{v:AV}(h:SlJ s N L v):Go.Am.lenA v=L.length:=by
 rcases h with⟨rfl,rfl⟩|⟨b,R,rfl,h2,h3,h4⟩ <;> rfl
theorem SlJ.lenL {s:St}{N:Nat}{L:List Nat}{v:AV}(h:SlJ s N L v):lenRL v=some (.int .i64 L.length):=by
 rcases h with⟨rfl,rfl⟩|⟨b,R,rfl,h2,h3,h4⟩ <;> rfl
theorem SlJ.app {s:St}{N:Nat}{L:List Nat}{v:AV}(h:SlJ s N L v)(hN:N≤s.next)(k:Nat) :
  ∃s1,appD 3 1 1 [.int .i64 (k:Int)] v s=some (.sl s.next 0 (L.length+1) none 1,s1)∧s1.next=s.next+1∧SlJ s1 N (L++[k]) (.sl s.next 0 (L.length+1) none 1)∧(∀j,j<s.next→¬isB v j→s1.get j=s.get j)∧(Fr s→Fr s1):=by
 rcases h with⟨rfl,rfl⟩|⟨b,R,rfl,h2,h3,h4⟩
 ·refine⟨_,appD_nils _ _ _ _ _,rfl,.inr ⟨s.next,[],rfl,?_,hN,by rw[next_new];omega⟩,fun j hj _=>by rw[get_new,if_neg (by omega)],fun hf=>hf.new _⟩
  rw[get_new,if_pos rfl];rfl
 ·have e:(nats (L++R)).take (L.length*1)=nats L:=by
   unfold nats nIs ints
   rw[List.map_append,List.map_append,Nat.mul_one,List.take_left' (by simp)]
  refine⟨(s.put b .gone).new (.cells (nats (L++[k])) 3 false 0 0),?_,rfl,.inr ⟨s.next,[],by simp,?_,hN,by rw[next_new,next_put];omega⟩,fun j hj hb=>?_,fun hf=>(hf.put h4 _).new _⟩
  ·rw[appD_sl,h2]
   have hgr:grab (L.length*1) 0 (nats (L++R))=some (nats L):=by
    rw[grab_seg _ _ _ (by rw[nats_len];simp),List.drop_zero,e]
   simp only[appS,hgr]
   rw[if_pos ⟨trivial,by omega,trivial,rfl⟩,nats_app]
  ·rw[get_new,next_put,if_pos rfl,List.append_nil]
  ·rw[isB_sl] at hb
   rw[get_new,next_put,if_neg (by omega),get_put,if_neg hb]
theorem SlJ.get {s:St}{N:Nat}{L:List Nat}{v:AV}(h:SlJ s N L v){i:Nat}(hi:i<L.length) :
  ∃b R,v=.sl b 0 L.length none 1∧s.get b=some (.cells (nats (L++R)) 3 false 0 0)∧(nats (L++R))[i]? = some (.int .i64 (L[i]:Nat)):=by
 rcases h with⟨rfl,rfl⟩|⟨b,R,rfl,h2,h3,h4⟩
 ·simp at hi
 ·refine⟨b,R,rfl,h2,?_⟩
  rw[nats_get (by simp;omega),gt_left hi,gt_get hi]
def RowB (s:St)(L:List Nat)(v:AV):Prop:=(v=.nils∧L=[])∨∃b,v=.sl b 0 L.length none 1∧s.get b=some (.cells (nats L) 3 false 0 0)∧b<s.next
theorem RowB.keep {s s':St}{L:List Nat}{v:AV}(h:RowB s L v)(hn:s.next≤s'.next)(hg:∀j,j<s.next→isB v j→s'.get j=s.get j):RowB s' L v:=by
 rcases h with h|⟨b,h1,h2,h4⟩
 ·exact .inl h
 ·exact .inr ⟨b,h1,by rw[hg b h4 ⟨_,h1⟩];exact h2,by omega⟩
theorem RowB.lenL {s:St}{L:List Nat}{v:AV}(h:RowB s L v):lenRL v=some (.int .i64 L.length):=by
 rcases h with⟨rfl,rfl⟩|⟨b,rfl,h2,h4⟩ <;> rfl
def NotP (pb bl bp bs bb be bm j:Nat):Prop:=j≠pb∧j≠bl∧j≠bp∧j≠bs∧j≠bb∧j≠be∧j≠bm
theorem PtI.ltA {s:St}{pb n bl bp bs bb be bm:Nat}{p:Pt}(h:PtI s pb n bl bp bs bb be bm p):pb<s.next∧bl<s.next∧bp<s.next∧bs<s.next∧bb<s.next∧be<s.next∧bm<s.next :=
 ⟨h.lt _ (by simp),h.lt _ (by simp),h.lt _ (by simp),h.lt _ (by simp),h.lt _ (by simp),h.lt _ (by simp),h.lt _ (by simp)⟩
theorem l172c {β:Type}{fin:Fl→β}{ks:List K}{Post:β→Prop}{pb n bl bp bs bb be bm N:Nat}{p:Pt}{T us:List Nat}{tv vB:AV}{e:Env}{s:St}(hn:n≤2^19)(h:PtI s pb n bl bp bs bb be bm p)(hw:p.Wf n)(hU:∀u∈us,u<n)(hul:us.length≤2^20)(hTl:T.length+us.length≤2^30)
  (g3:Env.get e 3=.ptr pb 0)(g13:Env.get e 13=tv)(g135:Env.get e 135=vB)(g136:Env.get e 136=.int .i64 us.length)(g137:Env.get e 137=.int .i64 (0:Nat))
  (hT:SlJ s N T tv)(hTf:∀j,isB tv j→NotP pb bl bp bs bb be bm j)(hN:N≤s.next)(hB:RowB s us vB)(hBf:∀j,isB vB j→NotP pb bl bp bs bb be bm j∧¬isB tv j)(fr:Fr s)
  (hk:∀e' s' tv',(∀t:Nat,t<13∨17<t∧t<137→Env.get e' t=Env.get e t)→Env.get e' 13=tv'→PtI s' pb n bl bp bs bb be bm (markAll us p T).1→SlJ s' N (markAll us p T).2 tv'→(∀j,isB tv' j→isB tv j∨s.next≤j) →
   (∀j,j<s.next→j≠bl→j≠bp→j≠bm→¬isB tv j→s'.get j=s.get j)→s.next≤s'.next→Fr s'→Post (goN U fin ks e' s')) :
  Post (goL U fin (.bk 12::ks) r172_l3 e s):=by
 refine loop_ex (σ:=Nat) (fun i=>us.length-i) (fun i e' s'=>i≤us.length∧(∀t:Nat,t<13∨17<t∧t<137→Env.get e' t=Env.get e t)∧Env.get e' 137=.int .i64 (i:Nat)∧s.next≤s'.next∧Fr s' ∧
   ∃p' T' tv',Env.get e' 13=tv'∧PtI s' pb n bl bp bs bb be bm p'∧p'.Wf n∧markAll (us.drop i) p' T'=markAll us p T∧T'.length≤T.length+i∧SlJ s' N T' tv'∧(∀j,isB tv' j→isB tv j∨s.next≤j)∧(∀j,j<s.next→j≠bl→j≠bp→j≠bm→¬isB tv j→s'.get j=s.get j)) 0 ?_
  ⟨Nat.zero_le _,fun _ _=>rfl,g137,Nat.le_refl _,fr,p,T,tv,g13,h,hw,rfl,by omega,hT,fun j=>.inl,fun _ _ _ _ _ _=>rfl⟩
 rintro Lp i e' s' ⟨hi,hold,q137,hnx,fr',p',T',tv',q13,P,hw',hmk,hlen,hT',hsub,hs⟩ IH
 have q3:=(hold 3 (by omega)).trans g3
 have q135:=(hold 135 (by omega)).trans g135
 have q136:=(hold 136 (by omega)).trans g136
 by_cases hd:i<us.length
 ·have hwr:=wrap_succ hd (by omega)
  have lts:=h.ltA
  have B2:=hB.keep hnx fun j h1 h2=>by obtain⟨h3,h4⟩:=hBf j h2;unfold NotP at h3;exact hs j h1 (by omega) (by omega) (by omega) h4
  obtain⟨b,rfl,hg,hb⟩:∃b,vB=.sl b 0 us.length none 1∧s'.get b=some (.cells (nats us) 3 false 0 0)∧b<s'.next:=by
   rcases B2 with⟨_,h⟩|h
   ·rw[h] at hd;simp at hd
   ·exact h
  have o1:=nats_get (l:=us) (i:=i) hd
  have hu:=hU _ (List.getElem_mem hd)
  rw[gt_get hd] at o1
  rw[List.drop_eq_getElem_cons hd,markAll] at hmk
  generalize us[i]=u at *
  obtain⟨s2,c1,P2,c2,c3,c4⟩:=c216 P hw' (by omega) fr' hu
  obtain⟨m1,m2,m3,m4,m5,m6,m7⟩:=markd_spec hw' hu
  have T2:=hT'.keep c2 fun j h1 h2 h3=>by
   have:NotP pb bl bp bs bb be bm j:=by
    rcases hsub j h3 with h4|h4
    ·exact hTf j h4
    ·unfold NotP;omega
   unfold NotP at this
   exact c4 j h1 (by omega) (by omega) (by omega)
  have fs:∀j,j<s.next→j≠bl→j≠bp→j≠bm→¬isB tv j→s2.get j=s.get j:=fun j h1 h2 h3 h4 h5=>by rw[c4 j (by omega) h2 h3 h4,hs j h1 h2 h3 h4 h5]
  cases hb2:(p'.markd u).2 with
  |false =>
   rw[hb2] at c1 hmk
   rw[cond_false] at hmk
   simp (maxSteps:=2000000) +contextual only[go_sem,↓reduceIte,r172_l3,q3,q135,q136,q137,nat_lt_dec,hd,hg,o1,k216',c1,hwr,Nat.mul_one]
   refine IH (i+1) _ _ (by omega) ⟨by omega,fun t ht=>?_,?_,by omega,c3,_,T',tv',?_,P2,m1,hmk,by omega,T2,hsub,fs⟩
   ·have hne:∀k:Nat,137≤k→(k=t)=False:=fun k hk=>by simp;omega
    have hne17:(17=t)=False:=by simp;omega
    simp +contextual only[go_sem,↓reduceIte,hne,hne17]
    exact hold t ht
   ·simp +contextual only[go_sem,↓reduceIte]
   ·simp +contextual only[go_sem,↓reduceIte,q13]
  |true =>
   rw[hb2] at c1 hmk
   rw[cond_true] at hmk
   have hst:gt p'.set u=gt (p'.markd u).1.set u:=by rw[m2]
   have lsu:=m1.ls
   have o2:=nats_get (l:=(p'.markd u).1.set) (i:=u) (by omega)
   have hlA:=T2.lenA
   have hb5:(T'.length+1)*8≤1099511627776:=by omega
   have hb6:T'.length+1≤1099511627776:=by omega
   simp (maxSteps:=2000000) +contextual only[go_sem,↓reduceIte,r172_l3,q3,q13,q135,q136,q137,nat_lt_dec,hd,hg,o1,k216',c1,hwr,Nat.mul_one,Nat.one_mul,P2.g,P2.gs,o2,hu,lsu,appK_some,Nat.reducePow,hlA,hb5,hb6]
   have T3:SlJ (s2.new (.cells [.int .i64 ((gt (p'.markd u).1.set u:Nat):Int)] 3 false 0 0)) N T' tv':=T2.keep (by rw[next_new];omega) fun j h1 _ _=>by rw[get_new,if_neg (by omega)]
   obtain⟨s4,d1,d2,d3,d4,d5⟩:=T3.app (by rw[next_new];omega) (gt (p'.markd u).1.set u)
   rw[next_new] at d1 d2 d3 d4
   rw[d1]
   simp (maxSteps:=2000000) +contextual only[go_sem,↓reduceIte,q137,hwr]
   rw[←hst] at d3
   have k4:∀j,j<s2.next→¬isB tv' j→s4.get j=s2.get j:=fun j h1 h2=>by rw[d4 j (by omega) h2,get_new,if_neg (by omega)]
   have hP:∀j,isB tv' j→NotP pb bl bp bs bb be bm j:=fun j hj=>by
    rcases hsub j hj with h4|h4
    ·exact hTf j h4
    ·unfold NotP;omega
   refine IH (i+1) _ _ (by omega) ⟨by omega,fun t ht=>?_,?_,by omega,d5 (c3.new _),_,T'++[gt p'.set u],.sl (s2.next+1) 0 (T'.length+1) none 1,?_,P2.mono (by omega) fun j hj=>k4 j (P2.lt j hj) fun hb=>?_,m1,hmk,by simp;omega,d3,fun j hj=>?_,fun j h1 h2 h3 h4 h5=>?_⟩
   ·have hne:∀k:Nat,137≤k→(k=t)=False:=fun k hk=>by simp;omega
    have hne17:(17=t)=False:=by simp;omega
    have hne13:(13=t)=False:=by simp;omega
    simp +contextual only[go_sem,↓reduceIte,hne,hne17,hne13]
    exact hold t ht
   ·simp +contextual only[go_sem,↓reduceIte]
   ·simp +contextual only[go_sem,↓reduceIte]
   ·have:=hP j hb
    unfold NotP at this
    simp only[List.mem_cons,List.not_mem_nil,or_false] at hj
    omega
   ·rw[isB_sl] at hj;omega
   ·by_cases hb:isB tv' j
    ·rcases hsub j hb with h6|h6
     ·exact absurd h6 h5
     ·omega
    ·rw[k4 j (by omega) hb,fs j h1 h2 h3 h4 h5]
 ·have:i=us.length:=by omega
  subst this
  rw[List.drop_length,markAll] at hmk
  rw[←hmk] at hk
  simp (maxSteps:=2000000) +contextual only[go_sem,↓reduceIte,r172_l3,q136,q137,nat_lt_dec,Nat.lt_irrefl]
  refine hk _ _ tv' (fun t ht=>?_) ?_ P hT' hsub hs hnx fr'
  ·have hne:∀k:Nat,137≤k→(k=t)=False:=fun k hk=>by simp;omega
   have hne17:(17=t)=False:=by simp;omega
   simp +contextual only[go_sem,↓reduceIte,hne,hne17]
   exact hold t ht
  ·simp +contextual only[go_sem,↓reduceIte,q13]
structure BefI (s:St)(B m n:Nat)(bf:Nat→Nat→List Nat)(lo hi:Nat)(bx:Nat→Nat)(vs:Nat→Nat→AV):Prop where
 g:s.get B=some (.cells ((List.range m).map fun x=>.sl (bx x) 0 n (some n) 1) 66 false 0 0)
 row:∀x,x<m→s.get (bx x)=some (.cells ((List.range n).map (vs x)) 40 false 0 0)
 bl:∀x,x<m→∀c,c<n→RowB s (bf x c) (vs x c)
 hB:lo≤B∧B<hi
 hx:∀x,x<m→lo≤bx x∧bx x<hi
 hv:∀x,x<m→∀c,c<n→∀j,isB (vs x c) j→lo≤j∧j<hi
 le:hi≤s.next
theorem BefI.keep {s s':St}{B m n:Nat}{bf:Nat→Nat→List Nat}{lo hi:Nat}{bx:Nat→Nat}{vs:Nat→Nat→AV}(h:BefI s B m n bf lo hi bx vs)(hn:s.next≤s'.next)(hg:∀j,lo≤j→j<hi→s'.get j=s.get j):BefI s' B m n bf lo hi bx vs :=
 ⟨(hg _ h.hB.1 h.hB.2).trans h.g,fun x hx=>(hg _ (h.hx x hx).1 (h.hx x hx).2).trans (h.row x hx),fun x hx c hc=>(h.bl x hx c hc).keep hn fun j _ hj=>hg j (h.hv x hx c hc j hj).1 (h.hv x hx c hc j hj).2,h.hB,h.hx,h.hv,by have:=h.le;omega⟩
def Ou (lo hi j:Nat):Prop:=j<lo∨hi≤j
theorem range_get (f:Nat→AV){n i:Nat}(h:i<n):((List.range n).map f)[i]? = some (f i):=by
 rw[List.getElem?_map,List.getElem?_range h];rfl
theorem markAll_wf {n:Nat}:∀(us:List Nat) (p:Pt) (T:List Nat),p.Wf n→(∀u∈us,u<n)→(markAll us p T).1.Wf n
 |[],p,T,h,_=>h
 |u::l,p,T,h,hu=>by
  rw[markAll]
  exact markAll_wf l _ _ (markd_spec h (hu u (List.mem_cons_self ..))).1 fun x hx=>hu x (List.mem_cons_of_mem _ hx)
theorem markAll_len:∀(us:List Nat) (p:Pt) (T:List Nat),(markAll us p T).2.length≤T.length+us.length
 |[],p,T=>by simp[markAll]
 |u::l,p,T=>by
  rw[markAll]
  have:=markAll_len l (p.markd u).1 (bif (p.markd u).2 then T++[gt p.set u] else T)
  have h2:(bif (p.markd u).2 then T++[gt p.set u] else T).length≤T.length+1:=by cases (p.markd u).2 <;> simp
  rw[List.length_cons]
  omega
theorem l172d {β:Type}{fin:Fl→β}{ks:List K}{Post:β→Prop}{pb n m bl bp bs bb be bm N B lo hi x:Nat}{bf:Nat→Nat→List Nat}{bx:Nat→Nat}{vs:Nat→Nat→AV}{p:Pt}{T ms:List Nat}{tv mv:AV}{e:Env}{s:St}(hn:n≤2^9)(hm:m≤2^9)(hx:x<m)(h:PtI s pb n bl bp bs bb be bm p)(hw:p.Wf n)(hM:∀u∈ms,u<n)(hml:ms.length≤2^9)(hTl:T.length+ms.length*n≤2^29)
  (hbf:∀c,c<n→(bf x c).length≤n∧∀u∈bf x c,u<n)
  (g3:Env.get e 3=.ptr pb 0)(g4:Env.get e 4=.sl B 0 m (some m) 1)(g12:Env.get e 12=.int .i64 (x:Int))(g13:Env.get e 13=tv)(g123:Env.get e 123=mv)(g124:Env.get e 124=.int .i64 ms.length)(g125:Env.get e 125=.int .i64 (0:Nat))
  (hT:SlJ s N T tv)(hTf:∀j,isB tv j→NotP pb bl bp bs bb be bm j∧Ou lo hi j)(hN:N≤s.next)(hMr:RowB s ms mv)(hMf:∀j,isB mv j→NotP pb bl bp bs bb be bm j∧¬isB tv j)
  (hB:BefI s B m n bf lo hi bx vs)(hPo:∀j,Ou lo hi j∨NotP pb bl bp bs bb be bm j)(fr:Fr s)
  (hk:∀e' s' tv',(∀t:Nat,t<13∨17<t∧t<125→Env.get e' t=Env.get e t)→Env.get e' 13=tv'→PtI s' pb n bl bp bs bb be bm (markAll (ms.flatMap (bf x)) p T).1→SlJ s' N (markAll (ms.flatMap (bf x)) p T).2 tv'→(∀j,isB tv' j→isB tv j∨s.next≤j) →
   (∀j,j<s.next→j≠bl→j≠bp→j≠bm→¬isB tv j→s'.get j=s.get j)→s.next≤s'.next→Fr s'→Post (goN U fin ks e' s')) :
  Post (goL U fin (.bk 10::ks) r172_l4 e s):=by
 refine loop_ex (σ:=Nat) (fun i=>ms.length-i) (fun i e' s'=>i≤ms.length∧(∀t:Nat,t<13∨17<t∧t<125→Env.get e' t=Env.get e t)∧Env.get e' 125=.int .i64 (i:Nat)∧s.next≤s'.next∧Fr s' ∧
   ∃p' T' tv',Env.get e' 13=tv'∧PtI s' pb n bl bp bs bb be bm p'∧p'.Wf n∧markAll ((ms.drop i).flatMap (bf x)) p' T'=markAll (ms.flatMap (bf x)) p T∧T'.length≤T.length+i*n∧SlJ s' N T' tv'∧(∀j,isB tv' j→isB tv j∨s.next≤j)∧(∀j,j<s.next→j≠bl→j≠bp→j≠bm→¬isB tv j→s'.get j=s.get j)) 0 ?_
  ⟨Nat.zero_le _,fun _ _=>rfl,g125,Nat.le_refl _,fr,p,T,tv,g13,h,hw,rfl,by simp,hT,fun j=>.inl,fun _ _ _ _ _ _=>rfl⟩
 rintro Lp i e' s' ⟨hil,hold,q125,hnx,fr',p',T',tv',q13,P,hw',hmk,hlen,hT',hsub,hs⟩ IH
 have q3:=(hold 3 (by omega)).trans g3
 have q4:=(hold 4 (by omega)).trans g4
 have q12:=(hold 12 (by omega)).trans g12
 have q123:=(hold 123 (by omega)).trans g123
 have q124:=(hold 124 (by omega)).trans g124
 have lts:=h.ltA
 by_cases hd:i<ms.length
 ·have hwr:=wrap_succ hd (by omega)
  have hle:=hB.le
  have B2:=hB.keep hnx fun j h1 h2=>by
   have h3:NotP pb bl bp bs bb be bm j:=by rcases hPo j with h|h;unfold Ou at h;omega;exact h
   unfold NotP at h3
   exact hs j (by omega) (by omega) (by omega) (by omega) fun hb=>by have:=(hTf j hb).2;unfold Ou at this;omega
  have M2:=hMr.keep hnx fun j h1 h2=>by obtain⟨h3,h4⟩:=hMf j h2;unfold NotP at h3;exact hs j h1 (by omega) (by omega) (by omega) h4
  obtain⟨b,rfl,hg,hb⟩:∃b,mv=.sl b 0 ms.length none 1∧s'.get b=some (.cells (nats ms) 3 false 0 0)∧b<s'.next:=by
   rcases M2 with⟨_,h⟩|h
   ·rw[h] at hd;simp at hd
   ·exact h
  have o1:=nats_get (l:=ms) (i:=i) hd
  have hu:=hM _ (List.getElem_mem hd)
  rw[gt_get hd] at o1
  rw[List.drop_eq_getElem_cons hd,List.flatMap_cons,markAll_app] at hmk
  generalize ms[i]=c at *
  obtain⟨f1,f2⟩:=hbf c hu
  have o2:=range_get (fun x=>(AV.sl (bx x) 0 n (some n) 1)) hx
  have o3:=range_get (vs x) hu
  have hv1:=B2.row x hx
  have hv2:=B2.bl x hx c hu
  have hv3:=hv2.lenL
  have hin:i*n+n≤ms.length*n:=by
   have:(i+1)*n≤ms.length*n:=Nat.mul_le_mul_right n hd
   rw[Nat.succ_mul] at this;exact this
  have hB2:=B2.g
  have hTP:∀j,isB tv' j→NotP pb bl bp bs bb be bm j∧(Ou lo hi j):=fun j hj=>by
   rcases hsub j hj with h4|h4
   ·exact hTf j h4
   ·refine⟨by unfold NotP;omega,by unfold Ou;omega⟩
  simp (maxSteps:=2000000) +contextual only[go_sem,↓reduceIte,r172_l4,q3,q4,q12,q123,q124,q125,nat_lt_dec,hd,hg,o1,o2,o3,hx,hu,hB2,hv1,hv3,Nat.mul_one]
  refine l172c (N:=N) (p:=p') (T:=T') (tv:=tv') (us:=bf x c) (by omega) P hw' f2 (by omega) (by omega) ?_ ?_ ?_ ?_ ?_ hT' (fun j hj=>(hTP j hj).1) (by omega) hv2 (fun j hj=>?_) fr' ?_
  case refine_7 =>
   intro e2 s2 tv2 h2a h2b P3 T3 hs3 fs3 hn3 fr3
   have p125:Env.get e2 125=.int .i64 (i:Nat):=by rw[h2a 125 (by omega)];simp +contextual only[go_sem,↓reduceIte,q125]
   simp (maxSteps:=2000000) +contextual only[go_sem,↓reduceIte,p125,hwr]
   refine IH (i+1) _ _ (by omega) ⟨by omega,fun t ht=>?_,?_,by omega,fr3,_,_,tv2,?_,P3,markAll_wf _ _ _ hw' f2,hmk,?_,T3,fun j hj=>?_,fun j h1 h2 h3 h4 h5=>?_⟩
   ·have hne:∀k:Nat,125≤k→(k=t)=False:=fun k hk=>by simp;omega
    have hne15:(15=t)=False:=by simp;omega
    simp +contextual only[go_sem,↓reduceIte,hne,hne15]
    rw[h2a t (by omega)]
    simp +contextual only[go_sem,↓reduceIte,hne,hne15]
    exact hold t ht
   ·simp +contextual only[go_sem,↓reduceIte]
   ·simp +contextual only[go_sem,↓reduceIte,h2b]
   ·have:=markAll_len (bf x c) p' T'
    rw[Nat.succ_mul];omega
   ·rcases hs3 j hj with h6|h6
    ·exact hsub j h6
    ·right;omega
   ·by_cases hb:isB tv' j
    ·rcases hsub j hb with h6|h6
     ·exact absurd h6 h5
     ·omega
    ·rw[fs3 j (by omega) h2 h3 h4 hb,hs j h1 h2 h3 h4 h5]
  case refine_6 =>
   have h1:=B2.hv x hx c hu j hj
   refine⟨?_,fun hb=>?_⟩
   ·rcases hPo j with h|h
    ·unfold Ou at h;omega
    ·exact h
   ·have:=(hTP j hb).2
    unfold Ou at this;omega
  all_goals simp +contextual only[go_sem,↓reduceIte,q3,q13]
  all_goals rfl
 ·have:i=ms.length:=by omega
  subst this
  rw[List.drop_length,List.flatMap_nil,markAll] at hmk
  rw[←hmk] at hk
  simp (maxSteps:=2000000) +contextual only[go_sem,↓reduceIte,r172_l4,q124,q125,nat_lt_dec,Nat.lt_irrefl]
  refine hk _ _ tv' (fun t ht=>?_) ?_ P hT' hsub hs hnx fr'
  ·have hne:∀k:Nat,125≤k→(k=t)=False:=fun k hk=>by simp;omega
   have hne17:(17=t)=False:=by simp;omega
   simp +contextual only[go_sem,↓reduceIte,hne,hne17]
   exact hold t ht
  ·simp +contextual only[go_sem,↓reduceIte,q13]
theorem l172e {β:Type}{fin:Fl→β}{ks:List K}{Post:β→Prop}{pb n bl bp bs bb be bm N:Nat}{p:Pt}{T W:List Nat}{tv wv:AV}{e:Env}{s:St}(hn:n≤2^9)(h:PtI s pb n bl bp bs bb be bm p)(hw:p.Wf n)(hnd:T.Nodup)(hTp:∀k∈T,k<p.bg.length∧0<gt p.mr k)(hTl:T.length≤2^29)(hWl:W.length+T.length≤2^30)
  (g3:Env.get e 3=.ptr pb 0)(g8:Env.get e 8=wv)(g156:Env.get e 156=tv)(g157:Env.get e 157=.int .i64 T.length)(g158:Env.get e 158=.int .i64 (0:Nat))
  (hT:SlJ s N T tv)(hW:SlJ s N W wv)(hN:N≤s.next)(hTf:∀j,isB tv j→NotP pb bl bp bs bb be bm j∧¬isB wv j)(hWf:∀j,isB wv j→NotP pb bl bp bs bb be bm j)(fr:Fr s)
  (hk:∀e' s' wv' bb' be' bm',(∀t:Nat,t<8∨8<t∧t<19∨20<t∧t<156→Env.get e' t=Env.get e t)→Env.get e' 8=wv'→PtI s' pb n bl bp bs bb' be' bm' (cutAll T p W).1→SlJ s' N (cutAll T p W).2 wv'→(∀j,isB wv' j→isB wv j∨s.next≤j)→(∀j,isB wv' j→NotP pb bl bp bs bb' be' bm' j) →
   (bb'=bb∨s.next≤bb')→(be'=be∨s.next≤be')→(bm'=bm∨s.next≤bm') →
   (∀j,j<s.next→j≠pb→j≠bs→j≠bb→j≠be→j≠bm→¬isB wv j→s'.get j=s.get j)→s.next≤s'.next→Fr s'→Post (goN U fin ks e' s')) :
  Post (goL U fin (.bk 14::ks) r172_l5 e s):=by
 refine loop_ex (σ:=Nat) (fun i=>T.length-i) (fun i e' s'=>i≤T.length∧(∀t:Nat,t<8∨8<t∧t<19∨20<t∧t<158→Env.get e' t=Env.get e t)∧Env.get e' 158=.int .i64 (i:Nat)∧s.next≤s'.next∧Fr s' ∧
   ∃p' W' wv' bb' be' bm',Env.get e' 8=wv'∧PtI s' pb n bl bp bs bb' be' bm' p'∧p'.Wf n∧(∀k∈T.drop i,k<p'.bg.length∧0<gt p'.mr k)∧cutAll (T.drop i) p' W'=cutAll T p W∧W'.length≤W.length+i∧SlJ s' N W' wv'∧(∀j,isB wv' j→isB wv j∨s.next≤j)∧(∀j,isB wv' j→NotP pb bl bp bs bb' be' bm' j) ∧
    (bb'=bb∨s.next≤bb')∧(be'=be∨s.next≤be')∧(bm'=bm∨s.next≤bm')∧(∀j,j<s.next→j≠pb→j≠bs→j≠bb→j≠be→j≠bm→¬isB wv j→s'.get j=s.get j)) 0 ?_
  ⟨Nat.zero_le _,fun _ _=>rfl,g158,Nat.le_refl _,fr,p,W,wv,bb,be,bm,g8,h,hw,hTp,rfl,by omega,hW,fun j=>.inl,hWf,.inl rfl,.inl rfl,.inl rfl,fun _ _ _ _ _ _ _ _=>rfl⟩
 rintro Lp i e' s' ⟨hil,hold,q158,hnx,fr',p',W',wv',bb',be',bm',q8,P,hw',hTp',hcut,hlen,hW',hsub,hfar,hbb,hbe,hbm,hs⟩ IH
 have q3:=(hold 3 (by omega)).trans g3
 have q156:=(hold 156 (by omega)).trans g156
 have q157:=(hold 157 (by omega)).trans g157
 have lts:=h.ltA
 by_cases hd:i<T.length
 ·have hwr:=wrap_succ hd (by omega)
  have T2:=hT.keep hnx fun j h1 h2 h3=>by
   obtain⟨h4,h5⟩:=hTf j h3
   unfold NotP at h4
   exact hs j h1 (by omega) (by omega) (by omega) (by omega) (by omega) h5
  obtain⟨b,R,rfl,hg,o1⟩:=T2.get hd
  have hki:=hTp' T[i] (by rw[List.drop_eq_getElem_cons hd];exact List.mem_cons_self ..)
  rw[List.drop_eq_getElem_cons hd,cutAll] at hcut
  have hrest:∀k∈T.drop (i+1),(k<p'.bg.length∧0<gt p'.mr k)∧k≠T[i]:=fun k hk=>by
   refine⟨hTp' k (by rw[List.drop_eq_getElem_cons hd];exact List.mem_cons_of_mem _ hk),?_⟩
   have hdn:(T.drop i).Nodup:=hnd.sublist (List.drop_sublist i T)
   rw[List.drop_eq_getElem_cons hd,List.nodup_cons] at hdn
   rintro rfl
   exact hdn.1 hk
  generalize T[i]=k at *
  obtain⟨hk1,hk2⟩:=hki
  have hc:=cut_spec hw' hk1 hk2
  obtain⟨s2,cb,ce,cm,c1,P2,c2,c3,c4,c5,c6,c7⟩:=c217 P hw' (by omega) fr' hk1 hk2
  have lts':=P.ltA
  have hdrop:∀x∈T.drop (i+1),x<(p'.cut k).1.bg.length∧0<gt (p'.cut k).1.mr x:=fun x hx=>by
   obtain⟨⟨h1,h2⟩,h3⟩:=hrest x hx
   have hlen:=hc.len
   rw[hc.mr x h1 h3]
   exact⟨by omega,h2⟩
  have W2:=hW'.keep c2 fun j h1 h2 h3=>by
   have h4:=hfar j h3
   unfold NotP at h4
   exact c7 j h1 (by omega) (by omega) (by omega) (by omega) (by omega)
  have hfew:=hw'.few
  have fs:∀j,j<s.next→j≠pb→j≠bs→j≠bb→j≠be→j≠bm→¬isB wv j→s2.get j=s.get j:=fun j h1 h2 h3 h4 h5 h6 h7=>by
   rw[c7 j (by omega) h2 h3 (by omega) (by omega) (by omega),hs j h1 h2 h3 h4 h5 h6 h7]
  cases hb2:(p'.cut k).2 with
  |false =>
   rw[hb2] at c1 hcut
   rw[cond_false] at hcut c1
   simp (maxSteps:=2000000) +contextual only[go_sem,↓reduceIte,r172_l5,q3,q8,q156,q157,q158,nat_lt_dec,hd,hg,o1,k217',c1,hwr,Nat.mul_one]
   refine IH (i+1) _ _ (by omega) ⟨by omega,fun t ht=>?_,?_,by omega,c3,_,W',wv',cb,ce,cm,?_,P2,hc.wf,hdrop,hcut,by omega,W2,hsub,fun j hj=>?_,by omega,by omega,by omega,fs⟩
   ·have hne:∀k:Nat,158≤k→(k=t)=False:=fun k hk=>by simp;omega
    have hne19:(19=t)=False:=by simp;omega
    have hne20:(20=t)=False:=by simp;omega
    simp +contextual only[go_sem,↓reduceIte,hne,hne19,hne20]
    exact hold t ht
   ·simp +contextual only[go_sem,↓reduceIte]
   ·simp +contextual only[go_sem,↓reduceIte,q8]
   ·have h4:=hfar j hj
    have h5:=hW'.lt hj
    unfold NotP at h4 ⊢
    omega
  |true =>
   rw[hb2] at c1 hcut
   rw[cond_true] at hcut c1
   have hlA:=W2.lenA
   have hge:decide ((p'.bg.length:Int)≥0)=true:=by simp
   have hb5:(W'.length+1)*8≤1099511627776:=by omega
   have hb6:W'.length+1≤1099511627776:=by omega
   simp (maxSteps:=2000000) +contextual only[go_sem,↓reduceIte,r172_l5,q3,q8,q156,q157,q158,nat_lt_dec,hd,hg,o1,k217',c1,hwr,Nat.mul_one,Nat.one_mul,hge,appK_some,Nat.reducePow,hlA,hb5,hb6]
   have T3:SlJ (s2.new (.cells [.int .i64 (p'.bg.length:Int)] 3 false 0 0)) N W' wv':=W2.keep (by rw[next_new];omega) fun j h1 _ _=>by rw[get_new,if_neg (by omega)]
   obtain⟨s4,d1,d2,d3,d4,d5⟩:=T3.app (by rw[next_new];omega) p'.bg.length
   rw[next_new] at d1 d2 d3 d4
   rw[d1]
   simp (maxSteps:=2000000) +contextual only[go_sem,↓reduceIte,q158,hwr]
   have k4:∀j,j<s2.next→¬isB wv' j→s4.get j=s2.get j:=fun j h1 h2=>by rw[d4 j (by omega) h2,get_new,if_neg (by omega)]
   have lts2:=P2.ltA
   refine IH (i+1) _ _ (by omega) ⟨by omega,fun t ht=>?_,?_,by omega,d5 (c3.new _),_,W'++[p'.bg.length],.sl (s2.next+1) 0 (W'.length+1) none 1,cb,ce,cm,?_,P2.mono (by omega) fun j hj=>k4 j (P2.lt j hj) fun hb=>?_,hc.wf,hdrop,hcut,by simp;omega,d3,fun j hj=>?_,fun j hj=>?_,by omega,by omega,by omega,fun j h1 h2 h3 h4 h5 h6 h7=>?_⟩
   ·have hne:∀k:Nat,158≤k→(k=t)=False:=fun k hk=>by simp;omega
    have hne19:(19=t)=False:=by simp;omega
    have hne20:(20=t)=False:=by simp;omega
    have hne8:(8=t)=False:=by simp;omega
    simp +contextual only[go_sem,↓reduceIte,hne,hne19,hne20,hne8]
    exact hold t ht
   ·simp +contextual only[go_sem,↓reduceIte]
   ·simp +contextual only[go_sem,↓reduceIte]
   ·have h4:=hfar j hb
    have h5:=hW'.lt hb
    unfold NotP at h4
    simp only[List.mem_cons,List.not_mem_nil,or_false] at hj
    omega
   ·rw[isB_sl] at hj;omega
   ·rw[isB_sl] at hj
    unfold NotP
    omega
   ·by_cases hb:isB wv' j
    ·rcases hsub j hb with h8|h8
     ·exact absurd h8 h7
     ·omega
    ·rw[k4 j (by omega) hb,fs j h1 h2 h3 h4 h5 h6 h7]
 ·have:i=T.length:=by omega
  subst this
  rw[List.drop_length,cutAll] at hcut
  rw[←hcut] at hk
  simp (maxSteps:=2000000) +contextual only[go_sem,↓reduceIte,r172_l5,q157,q158,nat_lt_dec,Nat.lt_irrefl]
  refine hk _ _ wv' bb' be' bm' (fun t ht=>?_) ?_ P hW' hsub hfar hbb hbe hbm hs hnx fr'
  ·have hne:∀k:Nat,158≤k→(k=t)=False:=fun k hk=>by simp;omega
   simp +contextual only[go_sem,↓reduceIte,hne]
   exact hold t (by omega)
  ·simp +contextual only[go_sem,↓reduceIte,q8]
theorem flatB_len {f:Nat→List Nat}{n:Nat}:∀{ms:List Nat},(∀u∈ms,u<n)→(∀c,c<n→(f c).length≤n)→(ms.flatMap f).length≤ms.length*n
 |[],_,_=>by simp
 |c::l,h1,h2=>by
  have ih:=flatB_len (f:=f) (ms:=l) (fun u hu=>h1 u (List.mem_cons_of_mem _ hu)) h2
  have:=h2 c (h1 c (List.mem_cons_self ..))
  rw[List.flatMap_cons,List.length_append,List.length_cons,Nat.succ_mul]
  omega
theorem l172f {β:Type}{fin:Fl→β}{ks:List K}{Post:β→Prop}{pb n m bl bp bs bb be bm N B lo hi:Nat}{bf:Nat→Nat→List Nat}{nx:Nat→Nat→Nat}{bx:Nat→Nat}{vs:Nat→Nat→AV}{p:Pt}{W ms:List Nat}{wv mv:AV}{e:Env}{s:St}(hn:n≤2^8)(hm:m≤2^8)(h:PtI s pb n bl bp bs bb be bm p)(hw:p.Wf n)(hz:p.Zero)(hM:∀u∈ms,u<n)(hml:ms.length≤2^8)(hWl:W.length≤2^20)
  (hb:∀y,y<m→∀c,c<n→∀u,u∈bf y c↔u<n∧nx u y=c)(hbl:∀y,y<m→∀c,c<n→(bf y c).length≤n)
  (g3:Env.get e 3=.ptr pb 0)(g4:Env.get e 4=.sl B 0 m (some m) 1)(g8:Env.get e 8=wv)(g11:Env.get e 11=mv)(g119:Env.get e 119=.int .i64 (m:Int))(g120:Env.get e 120=.int .i64 (0:Nat))
  (hW:SlJ s N W wv)(hWf:∀j,isB wv j→NotP pb bl bp bs bb be bm j∧Ou lo hi j)(hN:N≤s.next)(hMr:RowB s ms mv)(hMf:∀j,isB mv j→NotP pb bl bp bs bb be bm j∧¬isB wv j)
  (hB:BefI s B m n bf lo hi bx vs)(hPo:∀j,Ou lo hi j∨NotP pb bl bp bs bb be bm j)(fr:Fr s)
  (hk:∀e' s' wv' bb' be' bm',(∀t:Nat,t<8∨8<t∧t<12→Env.get e' t=Env.get e t)→Env.get e' 8=wv'→PtI s' pb n bl bp bs bb' be' bm' (popP bf ms m 0 p W).1→SlJ s' N (popP bf ms m 0 p W).2 wv'→(∀j,isB wv' j→isB wv j∨s.next≤j)→(∀j,isB wv' j→NotP pb bl bp bs bb' be' bm' j) →
   (bb'=bb∨s.next≤bb')→(be'=be∨s.next≤be')→(bm'=bm∨s.next≤bm') →
   (∀j,j<s.next→NotP pb bl bp bs bb be bm j→¬isB wv j→s'.get j=s.get j)→s.next≤s'.next→Fr s'→Post (goN U fin ks e' s')) :
  Post (goL U fin (.bk 8::ks) r172_l6 e s):=by
 have hfew0:=hw.few
 refine loop_ex (σ:=Nat) (fun x=>m-x) (fun x e' s'=>x≤m∧(∀t:Nat,t<8∨8<t∧t<12∨20<t∧t<120→Env.get e' t=Env.get e t)∧Env.get e' 120=.int .i64 (x:Nat)∧s.next≤s'.next∧Fr s' ∧
   ∃p' W' wv' bb' be' bm',Env.get e' 8=wv'∧PtI s' pb n bl bp bs bb' be' bm' p'∧p'.Wf n∧p'.Zero∧popP bf ms (m-x) x p' W'=popP bf ms m 0 p W∧W'.length+p.bg.length=W.length+p'.bg.length∧SlJ s' N W' wv'∧(∀j,isB wv' j→isB wv j∨s.next≤j)∧(∀j,isB wv' j→NotP pb bl bp bs bb' be' bm' j) ∧
    (bb'=bb∨s.next≤bb')∧(be'=be∨s.next≤be')∧(bm'=bm∨s.next≤bm')∧(∀j,j<s.next→NotP pb bl bp bs bb be bm j→¬isB wv j→s'.get j=s.get j)) 0 ?_
  ⟨Nat.zero_le _,fun _ _=>rfl,g120,Nat.le_refl _,fr,p,W,wv,bb,be,bm,g8,h,hw,hz,rfl,rfl,hW,fun j=>.inl,fun j hj=>(hWf j hj).1,.inl rfl,.inl rfl,.inl rfl,fun _ _ _ _=>rfl⟩
 rintro Lp x e' s' ⟨hxl,hold,q120,hnx,fr',p',W',wv',bb',be',bm',q8,P,hw',hz',hpop,hlen,hW',hsub,hfar,hbb,hbe,hbm,hs⟩ IH
 have q3:=(hold 3 (by omega)).trans g3
 have q4:=(hold 4 (by omega)).trans g4
 have q11:=(hold 11 (by omega)).trans g11
 have q119:=(hold 119 (by omega)).trans g119
 have lts:=h.ltA
 have hle:=hB.le
 have hfew:=hw'.few
 by_cases hd:x<m
 ·have hwr:=wrap_succ hd (by omega)
  have B2:=hB.keep hnx fun j h1 h2=>by
   have h3:NotP pb bl bp bs bb be bm j:=by rcases hPo j with h|h;unfold Ou at h;omega;exact h
   exact hs j (by omega) h3 fun hb=>by have:=(hWf j hb).2;unfold Ou at this;omega
  have M2:=hMr.keep hnx fun j h1 h2=>by obtain⟨h3,h4⟩:=hMf j h2;exact hs j h1 h3 h4
  have hMlt:∀j,isB mv j→j<s.next:=fun j hj=>by
   rcases hMr with⟨rfl,_⟩|⟨b,rfl,_,hb⟩
   ·exact absurd hj (isB_nils j)
   ·rw[isB_sl] at hj;omega
  have hMf2:∀j,isB mv j→NotP pb bl bp bs bb' be' bm' j∧¬isB wv' j:=fun j hj=>by
   obtain⟨h3,h4⟩:=hMf j hj
   have h5:=hMlt j hj
   refine⟨by unfold NotP at h3 ⊢;omega,fun h6=>?_⟩
   rcases hsub j h6 with h7|h7
   ·exact h4 h7
   ·omega
  have hPo2:∀j,Ou lo hi j∨NotP pb bl bp bs bb' be' bm' j:=fun j=>by
   rcases hPo j with h3|h3
   ·exact .inl h3
   ·unfold NotP at h3 ⊢;unfold Ou;omega
  have hWf2:∀j,isB wv' j→Ou lo hi j:=fun j hj=>by
   rcases hsub j hj with h3|h3
   ·exact (hWf j h3).2
   ·unfold Ou;omega
  have hsp:=sym_spec hw' hz' W' (nx:=fun u=>nx u x) hM (hb x hd)
  have hus:∀u∈ms.flatMap (bf x),u<n:=fun u hu=>by
   rw[List.mem_flatMap] at hu
   obtain⟨c,h1,h2⟩:=hu
   exact ((hb x hd c (hM c h1) u).1 h2).1
  have ht0:Tch p' []:=⟨by simp,fun k hk=>by simp[hz' k hk],fun k hk=>by simp at hk⟩
  have hma:=markAll_spec (ms.flatMap (bf x)) hw' ht0 hus
  have hmlen:=markAll_len (ms.flatMap (bf x)) p' []
  have hfl:=flatB_len hM (fun c hc=>hbl x hd c hc)
  rw[List.length_nil,Nat.zero_add] at hmlen
  have hmn:ms.length*n≤2^8*2^8:=Nat.mul_le_mul hml hn
  rw[show m-x=(m-(x+1))+1 by omega,popP] at hpop
  unfold symP at hpop hsp
  simp (maxSteps:=2000000) +contextual only[go_sem,↓reduceIte,r172_l6,q11,q119,q120,nat_lt_dec,hd,M2.lenL]
  refine l172d (N:=N) (p:=p') (T:=[]) (tv:=.nils) (ms:=ms) (mv:=mv) (B:=B) (m:=m) (lo:=lo) (hi:=hi) (x:=x) (bf:=bf) (bx:=bx) (vs:=vs) (by omega) (by omega) hd P hw' hM (by omega) (by simp;omega) (fun c hc=>⟨hbl x hd c hc,fun u hu=>((hb x hd c hc u).1 hu).1⟩) ?_ ?_ ?_ ?_ ?_ ?_ ?_ (.inl ⟨rfl,rfl⟩) (fun j hj=>absurd hj (isB_nils j)) (by omega) M2 (fun j hj=>⟨(hMf2 j hj).1,isB_nils j⟩) B2 hPo2 fr' ?_
  case refine_8 =>
   intro e2 s2 tv2 h2a h2b P2 T2 ht2 fs2 hn2 fr2
   have p8:Env.get e2 8=wv':=by rw[h2a 8 (by omega)];simp +contextual only[go_sem,↓reduceIte,q8]
   have p3:Env.get e2 3=.ptr pb 0:=by rw[h2a 3 (by omega)];simp +contextual only[go_sem,↓reduceIte,q3]
   have lts':=P.ltA
   have W2:=hW'.keep hn2 fun j h1 h2 h3=>by
    have h4:=hfar j h3
    unfold NotP at h4
    exact fs2 j h1 (by omega) (by omega) (by omega) (isB_nils j)
   simp (maxSteps:=2000000) +contextual only[go_sem,↓reduceIte,h2b,T2.lenL]
   refine l172e (N:=N) (p:=(markAll (ms.flatMap (bf x)) p' []).1) (T:=(markAll (ms.flatMap (bf x)) p' []).2) (tv:=tv2) (W:=W') (wv:=wv') (by omega) P2 hma.wf hma.tch.nd (fun k hk=>⟨hma.tch.lt k hk,(hma.tch.mem k (hma.tch.lt k hk)).1 hk⟩) (by omega) (by omega) ?_ ?_ ?_ ?_ ?_ T2 W2 (by omega) (fun j hj=>?_) hfar fr2 ?_
   case refine_7 =>
    intro e3 s3 wv3 cb ce cm h3a h3b P3 W3 hs3 hf3 hcb hce hcm fs3 hn3 fr3
    have p120:Env.get e3 120=.int .i64 (x:Nat):=by
     rw[h3a 120 (by omega)]
     simp +contextual only[go_sem,↓reduceIte]
     rw[h2a 120 (by omega)]
     simp +contextual only[go_sem,↓reduceIte,q120]
    simp (maxSteps:=2000000) +contextual only[go_sem,↓reduceIte,p120,hwr]
    have hwl:=hsp.wlen
    refine IH (x+1) _ _ (by omega) ⟨by omega,fun t ht=>?_,?_,by omega,fr3,_,_,wv3,cb,ce,cm,?_,P3,hsp.wf,hsp.zero,hpop,by omega,W3,fun j hj=>?_,hf3,by omega,by omega,by omega,fun j h1 h2 h3=>?_⟩
    ·have hne:∀k:Nat,120≤k→(k=t)=False:=fun k hk=>by simp;omega
     have hne12:(12=t)=False:=by simp;omega
     have hne13:(13=t)=False:=by simp;omega
     simp +contextual only[go_sem,↓reduceIte,hne]
     rw[h3a t (by omega)]
     simp +contextual only[go_sem,↓reduceIte,hne]
     rw[h2a t (by omega)]
     simp +contextual only[go_sem,↓reduceIte,hne,hne12,hne13]
     exact hold t ht
    ·simp +contextual only[go_sem,↓reduceIte]
    ·simp +contextual only[go_sem,↓reduceIte,h3b]
    ·rcases hs3 j hj with h6|h6
     ·exact hsub j h6
     ·right;omega
    ·by_cases hb:isB wv' j
     ·rcases hsub j hb with h6|h6
      ·exact absurd h6 h3
      ·omega
     ·unfold NotP at h2
      rw[fs3 j (by omega) (by omega) (by omega) (by omega) (by omega) (by omega) hb,fs2 j (by omega) (by omega) (by omega) (by omega) (isB_nils j),hs j h1 h2 h3]
   case refine_6 =>
    rcases ht2 j hj with h6|h6
    ·exact absurd h6 (isB_nils j)
    ·refine⟨by unfold NotP;omega,fun hb=>?_⟩
     have:=hW'.lt hb
     omega
   all_goals simp +contextual only[go_sem,↓reduceIte,p3,p8,h2b]
   all_goals rfl
  all_goals simp +contextual only[go_sem,↓reduceIte,q3,q4,q11]
  all_goals rfl
 ·have:x=m:=by omega
  subst this
  rw[Nat.sub_self,popP] at hpop
  rw[←hpop] at hk
  simp (maxSteps:=2000000) +contextual only[go_sem,↓reduceIte,r172_l6,q119,q120,nat_lt_dec,Nat.lt_irrefl]
  refine hk _ _ wv' bb' be' bm' (fun t ht=>?_) ?_ P hW' hsub hfar hbb hbe hbm hs hnx fr'
  ·have hne:∀k:Nat,120≤k→(k=t)=False:=fun k hk=>by simp;omega
   simp +contextual only[go_sem,↓reduceIte,hne]
   exact hold t (by omega)
  ·simp +contextual only[go_sem,↓reduceIte,q8]
theorem sllD {b n k:Nat}(h:k≤n):slRL 1 (.sl b 0 n none 1) none (some (.int .i64 (k:Int)))=some (.sl b 0 k none 1):=by
 have e1:boundA (some (.int .i64 (k:Int))) n n=some k:=by simp[boundA];omega
 have e2:boundA none 0 k=some 0:=by simp[boundA]
 simp only[slRL,Option.getD_none,e1,e2,Nat.mul_one,Nat.zero_add,if_true,Option.map_none,Nat.sub_zero]
theorem hopP_nil (bef:Nat→Nat→List Nat)(m f:Nat)(p:Pt):hopP bef m f p []=p:=by
 cases f <;> rfl
theorem befA_len (A:Fa)(x c:Nat):(befA A x c).length≤A.n:=by
 unfold befA
 have:=List.length_filter_le (fun u=>A.nx u x==c) (List.range A.n)
 rw[List.length_range] at this
 exact this
theorem l172g {β:Type}{fin:Fl→β}{ks:List K}{Post:β→Prop}{A:Fa}(hA:A.ok){pb bl bp bs bb be bm N B lo hi F:Nat}{bx:Nat→Nat}{vs:Nat→Nat→AV}{p:Pt}{W:List Nat}{wv:AV}{e:Env}{s:St}(hn:A.n≤2^8)(hm:A.m≤2^8)(h:PtI s pb A.n bl bp bs bb be bm p)(hH:Hop A p W)(hF:F≤2^12)(hme:2*(A.n-p.bg.length)+W.length≤F)
  (g3:Env.get e 3=.ptr pb 0)(g4:Env.get e 4=.sl B 0 A.m (some A.m) 1)(g8:Env.get e 8=wv)
  (hW:SlJ s N W wv)(hWf:∀j,isB wv j→NotP pb bl bp bs bb be bm j∧Ou lo hi j)(hN:N≤s.next)
  (hB:BefI s B A.m A.n (befA A) lo hi bx vs)(hPo:∀j,Ou lo hi j∨NotP pb bl bp bs bb be bm j)(fr:Fr s)
  (hk:∀e' s' bb' be' bm',Env.get e' 3=.ptr pb 0→PtI s' pb A.n bl bp bs bb' be' bm' (hopP (befA A) A.m F p W)→Post (goN U fin ks e' s')) :
  Post (goL U fin (.bk 6::ks) r172_l7 e s):=by
 have lts:=h.ltA
 have hle:=hB.le
 refine loop_ex (σ:=Nat) (fun f=>f) (fun f e' s'=>f≤F∧Env.get e' 3=.ptr pb 0∧Env.get e' 4=.sl B 0 A.m (some A.m) 1∧s.next≤s'.next∧Fr s' ∧
   ∃p' W' wv' bb' be' bm',Env.get e' 8=wv'∧PtI s' pb A.n bl bp bs bb' be' bm' p'∧Hop A p' W'∧2*(A.n-p'.bg.length)+W'.length≤f∧hopP (befA A) A.m f p' W'=hopP (befA A) A.m F p W∧SlJ s' N W' wv'∧(∀j,isB wv' j→NotP pb bl bp bs bb' be' bm' j∧Ou lo hi j)∧BefI s' B A.m A.n (befA A) lo hi bx vs∧(∀j,Ou lo hi j∨NotP pb bl bp bs bb' be' bm' j)) F ?_
  ⟨Nat.le_refl _,g3,g4,Nat.le_refl _,fr,p,W,wv,bb,be,bm,g8,h,hH,hme,rfl,hW,hWf,hB,hPo⟩
 rintro Lp f e' s' ⟨hf,q3,q4,hnx,fr',p',W',wv',bb',be',bm',q8,P,hH',hme',hhop,hW',hfar,B',hPo'⟩ IH
 have hll:=hW'.lenL
 rcases List.eq_nil_or_concat W' with rfl|⟨W0,k,rfl⟩
 ·rw[hopP_nil] at hhop
  simp (maxSteps:=2000000) +contextual only[go_sem,↓reduceIte,r172_l7,q8,hll]
  refine hk _ _ bb' be' bm' ?_ (by rw[←hhop];exact P)
  simp +contextual only[go_sem,↓reduceIte,q3]
 ·rw[List.concat_eq_append] at *
  obtain⟨f,rfl⟩:∃g,f=g+1:=⟨f-1,by simp at hme';omega⟩
  have hlast:(W0++[k]).getLast? = some k:=by simp
  obtain⟨H2,hm2⟩:=hop_step hA (fun y _ c _ u=>befA_mem A y c u) hH' hlast
  rw[hopP,hlast] at hhop
  simp only[List.dropLast_concat] at hhop H2 hm2
  have hkW:=hH'.work k (by simp)
  obtain⟨k1,k2,k3⟩:=hH'.wf.sp k hkW
  have hfew:=hH'.wf.few
  have hle0:=hH'.wf.le;have hll0:=hH'.wf.ll
  have hwl:W0.length+1≤F:=by simp at hme';omega
  have hlen:(W0++[k]).length=W0.length+1:=by simp
  rw[hlen] at hll
  obtain⟨b,R,rfl,hg,hbn⟩:∃b R,wv'=.sl b 0 (W0.length+1) none 1∧s'.get b=some (.cells (nats (W0++[k]++R)) 3 false 0 0)∧N≤b∧b<s'.next:=by
   rcases hW' with⟨_,h⟩|⟨b,R,h1,h2,h3,h4⟩
   ·simp at h
   ·exact⟨b,R,by rw[h1,hlen],h2,h3,h4⟩
  have o1:(nats (W0++[k]++R))[W0.length]? = some (.int .i64 (k:Nat)):=by
   rw[nats_get (by simp),gt_left (by simp),gt_right (Nat.le_refl _),Nat.sub_self];rfl
  have w1:IntKind.i64.wrap (((W0.length+1:Nat):Int)-1)=(W0.length:Int):=by rw[wrap_i64] <;> omega
  have hgt:decide (((W0.length+1:Nat):Int)>0)=true:=by simp
  have sl1:=sllD (b:=b) (n:=W0.length+1) (k:=W0.length) (by omega)
  have o2:=nats_get (l:=p'.bg) (i:=k) hkW
  have o3:=nats_get (l:=p'.en) (i:=k) (by omega)
  have ke:k<p'.en.length:=by omega
  have sl2:=sllN (b:=bl) (n:=p'.list.length) (f:=gt p'.bg k) (t:=gt p'.en k) (.inl rfl) (by omega) (by omega)
  have lts':=P.ltA
  obtain⟨t1,t2,t3,t4,t5,t6,t7⟩:=lts'
  have c1:=c215 (s:=s'.upto (s'.next+21)) (b:=bl) (f:=gt p'.bg k) (k:=gt p'.en k-gt p'.bg k) (cap:=none) (L:=p'.list) (by rw[upto_get];exact P.gl) (by rw[upto_next];omega) (by omega) (by omega) (by omega)
  have hN1:∀j q,j<s'.next→(s'.next+q=j)=False:=fun j q hj=>by simp;omega
  have lb:=hbn.2
  have q1:W0.length<W0.length+1:=by omega
  simp (maxSteps:=2000000) +contextual only[go_sem,↓reduceIte,r172_l7,q3,q4,q8,hll,hg,o1,w1,hgt,sl1,o2,o3,hkW,ke,sl2,P.g,P.gb,P.ge,Nat.mul_one,k215',c1,Option.map_none,q1]
  have hg2:∀j x y,j<s'.next→((((s'.upto (s'.next+21)).new x).new y).get j=s'.get j):=fun j x y hj=>by
   rw[get_new,next_new,upto_next,if_neg (by omega),get_new,upto_next,if_neg (by omega),upto_get]
  have hpl:(piece p'.list (gt p'.bg k) (gt p'.en k)).length=gt p'.en k-gt p'.bg k:=piece_len (by omega)
  have hms:∀u∈piece p'.list (gt p'.bg k) (gt p'.en k),u<A.n:=fun u hu=>by
   obtain⟨i,h1,h2,rfl⟩:=(piece_mem (by omega)).1 hu
   exact (hH'.wf.li i (by omega)).1
  refine l172f (N:=N) (n:=A.n) (m:=A.m) (nx:=A.nx) (B:=B) (lo:=lo) (hi:=hi) (bx:=bx) (vs:=vs) (bf:=befA A) (p:=p') (W:=W0) (wv:=.sl b 0 W0.length none 1) (ms:=piece p'.list (gt p'.bg k) (gt p'.en k)) (mv:=.sl (s'.next+22) 0 (gt p'.en k-gt p'.bg k) none 1) hn hm (P.mono (by simp only[next_new,upto_next];omega) fun j hj=>hg2 j _ _ (P.lt j hj)) hH'.wf hH'.zero hms (by omega) (by omega) (fun y _ c _ u=>befA_mem A y c u) (fun y _ c _=>befA_len A y c) ?_ ?_ ?_ ?_ ?_ ?_ (.inr ⟨b,[k]++R,rfl,?_,hbn.1,?_⟩) (fun j hj=>?_) ?_ (.inr ⟨s'.next+22,?_,?_,?_⟩) (fun j hj=>?_) (B'.keep (by simp only[next_new,upto_next];omega) fun j h1 h2=>hg2 j _ _ (by omega)) hPo' ?_ ?_
  case refine_16 =>
   intro e2 s2 wv2 cb ce cm h2a h2b P2 W2 hs2 hf2 hcb hce hcm fs2 hn2 fr2
   simp only[next_new,upto_next] at hn2 fs2 hs2 hcb hce hcm
   simp (maxSteps:=2000000) +contextual only[go_sem,↓reduceIte]
   refine IH f _ _ (by omega) ⟨by omega,?_,?_,by omega,fr2,_,_,wv2,cb,ce,cm,h2b,P2,H2,by simp at hme';omega,hhop,W2,fun j hj=>⟨hf2 j hj,?_⟩,?_,fun j=>?_⟩
   ·rw[h2a 3 (by omega)];simp +contextual only[go_sem,↓reduceIte,q3]
   ·rw[h2a 4 (by omega)];simp +contextual only[go_sem,↓reduceIte,q4]
   ·rcases hs2 j hj with h6|h6
    ·rw[isB_sl] at h6
     exact (hfar j ((isB_sl _ _ _).2 h6)).2
    ·unfold Ou;omega
   ·refine B'.keep (by omega) fun j h1 h2=>?_
    have h3:NotP pb bl bp bs bb' be' bm' j:=by rcases hPo' j with h|h;unfold Ou at h;omega;exact h
    rw[fs2 j (by omega) h3 (fun hb=>by
     rw[isB_sl] at hb
     have:=(hfar j ((isB_sl _ _ _).2 hb)).2
     unfold Ou at this;omega),hg2 j _ _ (by omega)]
   ·rcases hPo' j with h3|h3
    ·exact .inl h3
    ·unfold NotP at h3 ⊢;unfold Ou;omega
  case refine_15=>exact ((fr'.upto (by omega)).new _).new _
  case refine_14 =>
   rw[isB_sl] at hj
   subst hj
   rw[isB_sl]
   refine⟨by unfold NotP;omega,by omega⟩
  case refine_13=>simp only[next_new,upto_next];omega
  case refine_12=>rw[get_new,next_new,upto_next,if_pos rfl];rfl
  case refine_11=>rw[hpl]
  case refine_10=>simp only[next_new,upto_next];omega
  case refine_9 =>
   rw[isB_sl] at hj
   exact hfar j ((isB_sl _ _ _).2 hj)
  case refine_8=>simp only[next_new,upto_next];omega
  case refine_7=>rw[hg2 _ _ _ hbn.2,hg,List.append_assoc]
  all_goals simp +contextual only[go_sem,↓reduceIte,q3,q4]
  all_goals rfl
def befU (A:Fa)(x c i:Nat):List Nat:=(List.range i).filter fun u=>A.nx u x==c
theorem befU_succ (A:Fa)(x c i:Nat):befU A x c (i+1)=if A.nx i x=c then befU A x c i++[i] else befU A x c i:=by
 unfold befU
 rw[List.range_succ,List.filter_append]
 by_cases e:A.nx i x=c <;> simp[e]
theorem befU_len (A:Fa)(x c i:Nat):(befU A x c i).length≤i:=by
 unfold befU
 have:=List.length_filter_le (fun u=>A.nx u x==c) (List.range i)
 rw[List.length_range] at this
 exact this
def updF (f:Nat→AV)(c:Nat)(v:AV)(k:Nat):AV:=if k=c then v else f k
theorem lay_upd {f:Nat→AV}{n c:Nat}(h:c<n)(v:AV):lay c [v] ((List.range n).map f)=some ((List.range n).map (updF f c v)):=by
 rw[lay_set _ _ _ (by simpa using h)]
 congr 1
 apply List.ext_getElem?
 intro k
 rw[List.getElem?_set]
 simp only[List.getElem?_map,List.length_map,List.length_range,updF]
 by_cases e:c=k
 ·subst e
  rw[if_pos rfl,if_pos h,List.getElem?_range h]
  simp[updF]
 ·rw[if_neg e]
  by_cases hk:k<n
  ·rw[List.getElem?_range hk]
   simp[updF,Ne.symm e]
  ·rw[List.getElem?_eq_none (by simp;omega)]
   rfl
theorem l172a {β:Type}{fin:Fl→β}{ks:List K}{Post:β→Prop}{a:Auto}(ha:a.ok){x B bX m:Nat}{Bc:List AV}{e:Env}{s:St}(hx:x<2^a.lines.toNat)
  (g4:Env.get e 4=.sl B 0 m (some m) 1)(g5:Env.get e 5=.int .i64 (x:Int))(g40:Env.get e 40=encS a.nNl (a.next.map encRow))(g41:Env.get e 41=.int .i64 a.next.length)(g42:Env.get e 42=.int .i64 (0:Nat))
  (hxm:x<m)(gB:s.get B=some (.cells Bc 66 false 0 0))(hBx:Bc[x]? = some (.sl bX 0 a.next.length (some a.next.length) 1))(gX:s.get bX=some (.cells ((List.range a.next.length).map fun _=>.nils) 40 false 0 0))(hne:B≠bX)(hB:B<s.next)(hX:bX<s.next)(fr:Fr s)
  (hk:∀e' s' vs,(∀t:Nat,t<6∨7<t∧t<40→Env.get e' t=Env.get e t)→s'.get bX=some (.cells ((List.range a.next.length).map vs) 40 false 0 0)→(∀c,c<a.next.length→SlI s' s.next (befU a.fa x c a.next.length) (vs c)) →
   (∀j,j<s.next→j≠bX→s'.get j=s.get j)→s.next≤s'.next→Fr s'→Post (goN U fin ks e' s')) :
  Post (goL U fin (.bk 2::ks) r172_l0 e s):=by
 have hfew:=ha.few
 refine loop_ex (σ:=Nat) (fun i=>a.next.length-i) (fun i e' s'=>i≤a.next.length∧(∀t:Nat,t<6∨7<t∧t<42→Env.get e' t=Env.get e t)∧Env.get e' 42=.int .i64 (i:Nat)∧(∀j,j<s.next→j≠bX→s'.get j=s.get j)∧s.next≤s'.next∧Fr s' ∧
   ∃vs:Nat→AV,s'.get bX=some (.cells ((List.range a.next.length).map vs) 40 false 0 0)∧(∀c,c<a.next.length→SlI s' s.next (befU a.fa x c i) (vs c))∧∀c c' j,c≠c'→c<a.next.length→c'<a.next.length→isB (vs c) j→¬isB (vs c') j) 0 ?_
  ⟨Nat.zero_le _,fun _ _=>rfl,g42,fun _ _ _=>rfl,Nat.le_refl _,fr,fun _=>.nils,gX,fun c _=>.inl ⟨rfl,rfl⟩,fun c c' j _ _ _ h=>absurd h (isB_nils j)⟩
 rintro Lp i e' s' ⟨hil,hold,q42,hs,hnx,fr',vs,qX,hvs,hdis⟩ IH
 have q4:=(hold 4 (by omega)).trans g4
 have q5:=(hold 5 (by omega)).trans g5
 have q40:=(hold 40 (by omega)).trans g40
 have q41:=(hold 41 (by omega)).trans g41
 by_cases hd:i<a.next.length
 ·have hwr:=wrap_succ hd (by omega)
  have hrow:=ixa_rowI (nl:=a.nNl) hd
  have hnx2:=ha.nxAt hd hx
  have hc:a.fa.nx i x<a.next.length:=ha.faok.lt i x hd hx
  have gB':=(hs B hB hne).trans gB
  have o1:=range_get vs hc
  have hvc:=hvs _ hc
  have hbl:=befU_len a.fa x (a.fa.nx i x) i
  have hbs:befU a.fa x (a.fa.nx i x) (i+1)=befU a.fa x (a.fa.nx i x) i++[i]:=by rw[befU_succ,if_pos rfl]
  have hbo:∀c,c≠a.fa.nx i x→befU a.fa x c (i+1)=befU a.fa x c i:=fun c h=>by rw[befU_succ,if_neg (fun e=>h e.symm)]
  generalize a.fa.nx i x=c at *
  have hlay:=fun v=>lay_upd (f:=vs) hc v
  have hX':bX<s'.next:=by omega
  have hBn:B<s'.next:=by omega
  have hfk:=fr'.at
  have hN1:∀j q,j<s'.next→(j=s'.next+q)=False:=fun j q hj=>by simp;omega
  have hN2:∀j q,j<s'.next→(s'.next+q=j)=False:=fun j q hj=>by simp;omega
  have z1:(bX=B)=False:=eq_false hne.symm
  have z2:(B=bX)=False:=eq_false hne
  have key:∀(E:Env) (S:St),(∀t:Nat,t<6∨7<t∧t<42→Env.get E t=Env.get e' t)→Env.get E 42=.int .i64 ((i+1:Nat):Int) →
    S.get bX=some (.cells ((List.range a.next.length).map (updF vs c (.sl (s'.next+23) 0 ((befU a.fa x c i).length+1) none 1))) 40 false 0 0)→S.get (s'.next+23)=some (.cells (nats (befU a.fa x c i++[i])) 3 false 0 0) →
    (∀j,j<s'.next→j≠bX→¬isB (vs c) j→S.get j=s'.get j)→s'.next+23<S.next→Fr S→Post (goL U fin (.bk 2::ks) Lp E S):=by
   intro E S k1 k2 k3 k4 k5 k6 k7
   refine IH (i+1) _ _ (by omega) ⟨by omega,fun t ht=>(k1 t ht).trans (hold t ht),k2,fun j h1 h2=>(k5 j (by omega) h2 fun h=>by have:=hvc.lt h;omega).trans (hs j h1 h2),by omega,k7,_,k3,fun d hd2=>?_,fun d d' j h1 h2 h3 h4=>?_⟩
   ·unfold updF
    by_cases hdc:d=c
    ·subst hdc
     rw[if_pos rfl,hbs]
     exact .inr ⟨s'.next+23,by simp,k4,by omega,k6⟩
    ·rw[if_neg hdc,hbo d hdc]
     exact (hvs d hd2).keep (by omega) fun j h1 h2 h3=>k5 j h1 (by omega) fun h4=>hdis d c j hdc hd2 hc h3 h4
   ·unfold updF at h4 ⊢
    by_cases hdc:d=c
    ·have hdc':d'≠c:=by omega
     rw[if_pos hdc,isB_sl] at h4
     rw[if_neg hdc']
     intro h5
     have:=(hvs d' h3).lt h5
     omega
    ·rw[if_neg hdc] at h4
     by_cases hdc':d'=c
     ·rw[if_pos hdc',isB_sl]
      have:=(hvs d h2).lt h4
      omega
     ·rw[if_neg hdc']
      exact hdis d d' j h1 h2 h3 h4
  have hb1:((befU a.fa x c i).length+1)*8≤1099511627776:=by omega
  have hb2:(befU a.fa x c i).length+1≤1099511627776:=by omega
  have hb5:(0+1)*8≤1099511627776:=by omega
  have hnt:∀t:Nat,t<6∨7<t∧t<42→(6=t)=False∧(7=t)=False∧∀k:Nat,42≤k→(k=t)=False:=fun t ht=>⟨by simp;omega,by simp;omega,fun k hk=>by simp;omega⟩
  rcases hvc with⟨hv,hL⟩|⟨b,hv,hg,e1,e2⟩
  ·rw[hv] at o1 key
   rw[hL] at key
   simp (maxSteps:=2000000) +contextual only[go_sem,↓reduceIte,r172_l0,q4,q5,q40,q41,q42,nat_lt_dec,hd,hwr,hrow,hnx2,go_drcU d172_0,gB',hBx,qX,o1,hxm,hc,appD_nils,appK_some,Nat.mul_one,Nat.one_mul,Nat.reducePow,Nat.zero_add,Nat.add_assoc,hfk,hX',hBn,hN1,hN2,z1,z2,hb5,hlay]
   refine key _ _ (fun t ht=>?_) ?_ ?_ ?_ (fun j h1 h2 h3=>?_) ?_ ?_
   ·obtain⟨n6,n7,n42⟩:=hnt t ht
    simp +contextual only[go_sem,↓reduceIte,n6,n7,n42]
   ·simp +contextual only[go_sem,↓reduceIte]
   ·simp +contextual only[go_sem,↓reduceIte]
    try rfl
   ·simp +contextual [go_sem,↓reduceIte,hN1,hN2,hX',Nat.add_assoc]
    try rfl
   ·have e0:∀q,(s'.next+q=j)=False:=fun q=>by simp;omega
    simp +contextual only[get_put,get_new,next_put,next_new,upto_next,upto_get,Nat.add_assoc,Nat.reduceAdd,e0,eq_false h2.symm,if_false]
   ·simp only[next_put,next_new,upto_next];omega
   ·repeat first|exact fr'|apply Fr.new|apply Fr.put|apply Fr.upto
    all_goals try simp only[next_put,next_new,upto_next]
    all_goals omega
  ·rw[hv] at o1 key
   have a1:=fun (S:St) (h:S.get b=some (.cells (nats (befU a.fa x c i)) 3 false 0 0))=>appX' rfl h i
   have z3:(bX=b)=False:=by simp;omega
   have z4:(b=bX)=False:=by simp;omega
   have z5:(b=B)=False:=by simp;omega
   have z6:(B=b)=False:=by simp;omega
   simp (maxSteps:=2000000) +contextual only[go_sem,↓reduceIte,r172_l0,q4,q5,q40,q41,q42,nat_lt_dec,hd,hwr,hrow,hnx2,go_drcU d172_0,gB',hBx,qX,o1,hxm,hc,hg,a1,appK_some,Nat.mul_one,Nat.one_mul,Nat.reducePow,Nat.zero_add,Nat.add_assoc,hfk,hX',hBn,hN1,hN2,z1,z2,z3,z4,z5,z6,e2,hb1,hb2,hlay]
   refine key _ _ (fun t ht=>?_) ?_ ?_ ?_ (fun j h1 h2 h3=>?_) ?_ ?_
   ·obtain⟨n6,n7,n42⟩:=hnt t ht
    simp +contextual only[go_sem,↓reduceIte,n6,n7,n42]
   ·simp +contextual only[go_sem,↓reduceIte]
   ·simp +contextual only[go_sem,↓reduceIte]
   ·simp +contextual [go_sem,↓reduceIte,hN1,hN2,hX',e2,Nat.add_assoc]
   ·have e0:∀q,(s'.next+q=j)=False:=fun q=>by simp;omega
    rw[isB_sl] at h3
    simp +contextual only[get_put,get_new,next_put,next_new,upto_next,upto_get,Nat.add_assoc,Nat.reduceAdd,e0,eq_false h2.symm,eq_false h3,if_false]
   ·simp only[next_put,next_new,upto_next];omega
   ·repeat first|exact fr'|apply Fr.new|apply Fr.put|apply Fr.upto
    all_goals try simp only[next_put,next_new,upto_next]
    all_goals omega
 ·have:i=a.next.length:=by omega
  subst this
  simp (maxSteps:=2000000) +contextual only[go_sem,↓reduceIte,r172_l0,q41,q42,nat_lt_dec,Nat.lt_irrefl]
  refine hk _ _ vs (fun t ht=>?_) qX hvs hs hnx fr'
  have hne:∀k:Nat,42≤k→(k=t)=False:=fun k hk=>by simp;omega
  simp +contextual only[go_sem,↓reduceIte,hne]
  exact hold t (by omega)
theorem opA_mks66 {ex:Ex}{a:Nat}{e:Env}{s:St}{n:Nat}(h:Env.get e a=.int .i64 (n:Int))(hn:n≤2^20) :
  opA U ex e (.makeSlice 66 (.tmp a) (.tmp a)) s=some (.sl s.next 0 n (some n) 1,s.new (.cells ((List.range n).map fun _=>.nils) 40 false 0 0)):=by
 have h40:U.und 66=some (.slice 40):=by kernel_rfl
 have hz:zero U 40=some .nils:=by kernel_rfl
 have hi:(U.inf 40).map (fun i=>(i.bytes,i.size))=some (24,1):=by kernel_rfl
 have e1:((List.range n).map fun _=>AV.nils)=List.replicate n .nils:=by simp[List.map_const']
 cases hj:U.inf 40 with
 |none=>rw[hj] at hi;cases hi
 |some j =>
  rw[hj] at hi
  simp only[Option.map_some,Option.some.injEq,Prod.mk.injEq] at hi
  obtain⟨h1,h2⟩:=hi
  rw[e1,←repeatL_one]
  simp only[opA,eval,h,h40,hj,hz]
  rw[if_pos ⟨by omega,by omega,by rw[h1];omega,by omega,by rw[h2];rfl,by omega⟩,h2]
  rfl
theorem opA_mks283 {ex:Ex}{a:Nat}{e:Env}{s:St}{n:Nat}(h:Env.get e a=.int .i64 (n:Int))(hn:n≤2^20) :
  opA U ex e (.makeSlice 283 (.tmp a) (.tmp a)) s=some (.sl s.next 0 n (some n) 1,s.new (.cells ((List.range n).map fun _=>.nils) 66 false 0 0)):=by
 have h40:U.und 283=some (.slice 66):=by kernel_rfl
 have hz:zero U 66=some .nils:=by kernel_rfl
 have hi:(U.inf 66).map (fun i=>(i.bytes,i.size))=some (24,1):=by kernel_rfl
 have e1:((List.range n).map fun _=>AV.nils)=List.replicate n .nils:=by simp[List.map_const']
 cases hj:U.inf 66 with
 |none=>rw[hj] at hi;cases hi
 |some j =>
  rw[hj] at hi
  simp only[Option.map_some,Option.some.injEq,Prod.mk.injEq] at hi
  obtain⟨h1,h2⟩:=hi
  rw[e1,←repeatL_one]
  simp only[opA,eval,h,h40,hj,hz]
  rw[if_pos ⟨by omega,by omega,by rw[h1];omega,by omega,by rw[h2];rfl,by omega⟩,h2]
  rfl
structure BefX (s:St)(B m n:Nat)(bf:Nat→Nat→List Nat)(x:Nat)(bx:Nat→Nat)(vs:Nat→Nat→AV):Prop where
 g:s.get B=some (.cells ((List.range m).map fun y=>if y<x then .sl (bx y) 0 n (some n) 1 else .nils) 66 false 0 0)
 row:∀y,y<x→s.get (bx y)=some (.cells ((List.range n).map (vs y)) 40 false 0 0)
 bl:∀y,y<x→∀c,c<n→SlI s (B+1) (bf y c) (vs y c)
 hx:∀y,y<x→B<bx y∧bx y<s.next
theorem BefX.full {s:St}{B m n:Nat}{bf:Nat→Nat→List Nat}{bx:Nat→Nat}{vs:Nat→Nat→AV}(h:BefX s B m n bf m bx vs)(hB:B<s.next):BefI s B m n bf B s.next bx vs:=by
 refine⟨?_,h.row,fun x hx c hc=>?_,⟨Nat.le_refl _,hB⟩,fun x hx=>⟨by have:=h.hx x hx;omega,(h.hx x hx).2⟩,fun x hx c hc j hj=>?_,Nat.le_refl _⟩
 ·rw[h.g]
  congr 2
  refine List.map_congr_left fun y hy=>?_
  rw[if_pos (List.mem_range.1 hy)]
 ·rcases h.bl x hx c hc with h1|⟨b,h1,h2,h3,h4⟩
  ·exact .inl h1
  ·exact .inr ⟨b,h1,h2,h4⟩
 ·have:=(h.bl x hx c hc).lt hj
  omega
theorem l172b {β:Type}{fin:Fl→β}{ks:List K}{Post:β→Prop}{a:Auto}(ha:a.ok){B ab m:Nat}{e:Env}{s:St}(hm:m=2^a.lines.toNat)
  (g1:Env.get e 1=.ptr ab 0)(g4:Env.get e 4=.sl B 0 m (some m) 1)(g28:Env.get e 28=.int .i64 (m:Int))(g29:Env.get e 29=.int .i64 (0:Nat))
  (ga:s.get ab=some (.cells [.int .i64 a.lines,encN a,encFs a] 69 false 0 0))(gB:s.get B=some (.cells ((List.range m).map fun _=>.nils) 66 false 0 0))(hab:ab<s.next)(hne:ab≠B)(hB:B<s.next)(fr:Fr s)
  (hk:∀e' s' bx vs,(∀t:Nat,t<5→Env.get e' t=Env.get e t)→BefX s' B m a.next.length (befA a.fa) m bx vs →
   (∀j,j<s.next→j≠B→s'.get j=s.get j)→s.next≤s'.next→Fr s'→Post (goN U fin ks e' s')) :
  Post (goL U fin (.bk 0::ks) r172_l1 e s):=by
 have hfew:=ha.few
 have hm16:m≤2^16:=by
  have:=pow_le16 a.lines (by have:=ha.lines;omega)
  have:=mOf_nat a.lines
  unfold mOf at this
  omega
 refine loop_ex (σ:=Nat) (fun x=>m-x) (fun x e' s'=>x≤m∧(∀t:Nat,t<5∨7<t∧t<29→Env.get e' t=Env.get e t)∧Env.get e' 29=.int .i64 (x:Nat)∧(∀j,j<s.next→j≠B→s'.get j=s.get j)∧s.next≤s'.next∧Fr s' ∧
   ∃bx vs,BefX s' B m a.next.length (befA a.fa) x bx vs) 0 ?_
  ⟨Nat.zero_le _,fun _ _=>rfl,g29,fun _ _ _=>rfl,Nat.le_refl _,fr,fun _=>0,fun _ _=>.nils,⟨by rw[gB];simp,fun y hy=>by omega,fun y hy=>by omega,fun y hy=>by omega⟩⟩
 rintro Lp x e' s' ⟨hxl,hold,q29,hs,hnx,fr',bx,vs,X⟩ IH
 have q1:=(hold 1 (by omega)).trans g1
 have q4:=(hold 4 (by omega)).trans g4
 have q28:=(hold 28 (by omega)).trans g28
 by_cases hd:x<m
 ·have hwr:=wrap_succ hd (by omega)
  have ga':=(hs ab hab hne).trans ga
  have hl:=lenL_encS a.nNl (a.next.map encRow)
  rw[List.length_map] at hl
  have mk:=fun (ex:Ex) (t:Nat) (e:Env) (S:St) (h:Env.get e t=.int .i64 (a.next.length:Int))=>opA_mks66 (ex:=ex) (s:=S) h (by omega)
  have hlay:=lay_upd (f:=fun y=>if y<x then .sl (bx y) 0 a.next.length (some a.next.length) 1 else .nils) hd (.sl s'.next 0 a.next.length (some a.next.length) 1)
  have z1:(s'.next=B)=False:=by simp;omega
  have z2:(B=ab)=False:=by simp;omega
  have z3:(s'.next=ab)=False:=by simp;omega
  have hBn:B<s'.next:=by omega
  have XB:=X.g
  unfold encN encFs at ga'
  simp (maxSteps:=2000000) +contextual only[go_sem,↓reduceIte,r172_l1,q1,q4,q28,q29,nat_lt_dec,hd,ga',hl,↓mk,XB,hlay,Nat.mul_one,z1,z2,z3]
  refine l172a ha (x:=x) (B:=B) (bX:=s'.next) (m:=m) (Bc:=(List.range m).map (updF (fun y=>if y<x then .sl (bx y) 0 a.next.length (some a.next.length) 1 else .nils) x (.sl s'.next 0 a.next.length (some a.next.length) 1))) (by omega) ?_ ?_ ?_ ?_ ?_ hd ?_ ?_ ?_ (by omega) (by simp only[next_put,next_new];omega) (by simp only[next_put,next_new];omega) ?_ ?_
  case refine_10 =>
   intro e2 s2 vx h2a h2X hvx hs2 hnx2 fr2
   simp only[next_put,next_new] at hs2 hnx2 hvx
   have p29:Env.get e2 29=.int .i64 (x:Nat):=by rw[h2a 29 (by omega)];simp +contextual only[go_sem,↓reduceIte,q29]
   have old:∀j,j<s'.next→j≠B→s2.get j=s'.get j:=fun j h1 h2=>by
    rw[hs2 j (by omega) (by omega),get_put,if_neg h2.symm,get_new,if_neg (by omega)]
   simp (maxSteps:=2000000) +contextual only[go_sem,↓reduceIte,p29,hwr]
   refine IH (x+1) _ _ (by omega) ⟨by omega,fun t ht=>?_,?_,fun j h1 h2=>by rw[old j (by omega) h2,hs j h1 h2],by omega,fr2,fun y=>if y=x then s'.next else bx y,fun y=>if y=x then vx else vs y,⟨?_,fun y hy=>?_,fun y hy c hc=>?_,fun y hy=>?_⟩⟩
   ·have hne:∀k:Nat,29≤k→(k=t)=False:=fun k hk=>by simp;omega
    have hne5:(5=t)=False:=by simp;omega
    simp +contextual only[go_sem,↓reduceIte,hne]
    rw[h2a t (by omega)]
    simp +contextual only[go_sem,↓reduceIte,hne,hne5]
    exact hold t ht
   ·simp +contextual only[go_sem,↓reduceIte]
   ·rw[hs2 B (by omega) (by omega),get_put,if_pos rfl]
    congr 2
    refine List.map_congr_left fun y hy=>?_
    unfold updF
    by_cases e:y=x
    ·rw[if_pos e,if_pos (by omega),if_pos e]
    ·rw[if_neg e,if_neg e]
     show (if y<x then _ else _)=_
     by_cases e2:y<x
     ·rw[if_pos e2,if_pos (by omega)]
     ·rw[if_neg e2,if_neg (by omega)]
   ·by_cases e:y=x
    ·simp only[e,if_true];exact h2X
    ·simp only[e,if_false]
     have hb:=X.hx y (by omega)
     rw[old _ hb.2 (by omega)]
     exact X.row y (by omega)
   ·by_cases e:y=x
    ·simp only[e,if_true]
     rcases hvx c hc with h1|⟨b,h1,h2,h3,h4⟩
     ·exact .inl h1
     ·exact .inr ⟨b,h1,h2,by omega,h4⟩
    ·simp only[e,if_false]
     have hb:=X.bl y (by omega) c hc
     exact hb.keep (by omega) fun j h1 h2 h3=>old j h1 (by omega)
   ·by_cases e:y=x
    ·simp only[e,if_true];omega
    ·simp only[e,if_false]
     have:=X.hx y (by omega)
     omega
  case refine_9=>exact (fr'.new _).put (by rw[next_new];omega) _
  case refine_8=>rw[get_put,if_neg (by omega),get_new,if_pos rfl]
  case refine_7 =>
   rw[range_get _ hd]
   unfold updF
   rw[if_pos rfl]
  case refine_6=>rw[get_put,if_pos rfl]
  all_goals simp +contextual only[go_sem,↓reduceIte,q4]
  all_goals rfl
 ·have:x=m:=by omega
  subst this
  simp (maxSteps:=2000000) +contextual only[go_sem,↓reduceIte,r172_l1,q28,q29,nat_lt_dec,Nat.lt_irrefl]
  refine hk _ _ bx vs (fun t ht=>?_) X hs hnx fr'
  have hne:∀k:Nat,29≤k→(k=t)=False:=fun k hk=>by simp;omega
  simp +contextual only[go_sem,↓reduceIte,hne]
  exact hold t (by omega)
theorem l172h {β:Type}{fin:Fl→β}{ks:List K}{Post:β→Prop}{n:Nat}{e:Env}{s:St}(hn:n≤2^20)(g8:Env.get e 8=.nils)(g75:Env.get e 75=.int .i64 (n:Int))(g76:Env.get e 76=.int .i64 (0:Nat))(fr:Fr s)
  (hk:∀e' s' wv,(∀t:Nat,t<8→Env.get e' t=Env.get e t)→Env.get e' 8=wv→SlJ s' s.next (List.range n) wv→(∀j,j<s.next→s'.get j=s.get j)→s.next≤s'.next→Fr s'→Post (goN U fin ks e' s')) :
  Post (goL U fin (.bk 4::ks) r172_l2 e s):=by
 refine loop_ex (σ:=Nat) (fun i=>n-i) (fun i e' s'=>i≤n∧(∀t:Nat,t<8∨9<t∧t<76→Env.get e' t=Env.get e t)∧Env.get e' 76=.int .i64 (i:Nat)∧(∀j,j<s.next→s'.get j=s.get j)∧s.next≤s'.next∧Fr s' ∧
   ∃wv,Env.get e' 8=wv∧SlJ s' s.next (List.range i) wv) 0 ?_
  ⟨Nat.zero_le _,fun _ _=>rfl,g76,fun _ _=>rfl,Nat.le_refl _,fr,.nils,g8,.inl ⟨rfl,rfl⟩⟩
 rintro Lp i e' s' ⟨hil,hold,q76,hs,hnx,fr',wv,q8,hW⟩ IH
 have q75:=(hold 75 (by omega)).trans g75
 by_cases hd:i<n
 ·have hwr:=wrap_succ hd (by omega)
  have hlA:=hW.lenA
  rw[List.length_range] at hlA
  have hb5:(i+1)*8≤1099511627776:=by omega
  have hb6:i+1≤1099511627776:=by omega
  simp (maxSteps:=2000000) +contextual only[go_sem,↓reduceIte,r172_l2,q8,q75,q76,nat_lt_dec,hd,hwr,Nat.mul_one,Nat.one_mul,appK_some,Nat.reducePow,hlA,hb5,hb6]
  have W3:SlJ (s'.new (.cells [.int .i64 (i:Int)] 3 false 0 0)) s.next (List.range i) wv:=hW.keep (by rw[next_new];omega) fun j h1 _ _=>by rw[get_new,if_neg (by omega)]
  obtain⟨s4,d1,d2,d3,d4,d5⟩:=W3.app (by rw[next_new];omega) i
  rw[next_new] at d1 d2 d3 d4
  rw[d1]
  simp (maxSteps:=2000000) +contextual only[go_sem,↓reduceIte,q76,hwr]
  refine IH (i+1) _ _ (by omega) ⟨by omega,fun t ht=>?_,?_,fun j hj=>?_,by omega,d5 (fr'.new _),_,?_,by rw[List.range_succ];exact d3⟩
  ·have hne:∀k:Nat,76≤k→(k=t)=False:=fun k hk=>by simp;omega
   have hne8:(8=t)=False:=by simp;omega
   have hne9:(9=t)=False:=by simp;omega
   simp +contextual only[go_sem,↓reduceIte,hne,hne8,hne9]
   exact hold t ht
  ·simp +contextual only[go_sem,↓reduceIte]
  ·rw[d4 j (by omega) (fun h=>by have:=hW.lt h;omega),get_new,if_neg (by omega)];exact hs j hj
  ·simp +contextual only[go_sem,↓reduceIte]
 ·have:i=n:=by omega
  subst this
  simp (maxSteps:=2000000) +contextual only[go_sem,↓reduceIte,r172_l2,q75,q76,nat_lt_dec,Nat.lt_irrefl]
  refine hk _ _ wv (fun t ht=>?_) ?_ hW hs hnx fr'
  ·have hne:∀k:Nat,76≤k→(k=t)=False:=fun k hk=>by simp;omega
   simp +contextual only[go_sem,↓reduceIte,hne]
   exact hold t (by omega)
  ·simp +contextual only[go_sem,↓reduceIte,q8]
noncomputable def setsA (a:Auto):List Nat :=
 (hopP (befA a.fa) a.fa.m (2*(a.fa.n-(rowsP (kapA a) a.fa.n).bg.length)+(rowsP (kapA a) a.fa.n).bg.length) (rowsP (kapA a) a.fa.n) (List.range (rowsP (kapA a) a.fa.n).bg.length)).set
theorem kapA_eq {a:Auto}(ha:a.ok){u v:Nat}(hu:u<a.fa.n)(hv:v<a.fa.n):kapA a u=kapA a v↔∀x,x<a.fa.m→a.fa.fr u x=a.fa.fr v x:=by
 have hu':u<a.fires.length:=by rw[ha.fl];exact hu
 have hv':v<a.fires.length:=by rw[ha.fl];exact hv
 have h1:=ha.frow u hu'
 have h2:=ha.frow v hv'
 have e1:∀s x,a.fa.fr s x=(a.fires.getD s (true,[])).2.getD x false:=fun _ _=>rfl
 unfold kapA
 simp only[e1]
 rw[getD_at hu',getD_at hv']
 constructor
 ·intro h x _
  rw[keyS_inj (by omega) h]
 ·intro h
  congr 1
  refine List.ext_getElem (by omega) fun x q1 q2=>?_
  have:=h x (by show x<2^a.lines.toNat;omega)
  rw[getD_at q1,getD_at q2] at this
  exact this
theorem setsA_hop {a:Auto}(ha:a.ok):Hop a.fa (rowsP (kapA a) a.fa.n) (List.range (rowsP (kapA a) a.fa.n).bg.length):=rows_hop fun u v hu hv=>kapA_eq ha hu hv
theorem setsA_len {a:Auto}(ha:a.ok):(setsA a).length=a.fa.n:=by
 have h:=hop_end ha.faok (fun y _ c _ u=>befA_mem a.fa y c u) _ (setsA_hop ha) (Nat.le_refl _)
 rw[List.length_range] at h
 exact h.wf.ls
theorem setsA_eq {a:Auto}(ha:a.ok){u v:Nat}(hu:u<a.fa.n)(hv:v<a.fa.n):gt (setsA a) u=gt (setsA a) v↔clsR a.fa u=clsR a.fa v :=
 cls_eq ha.faok (fun u v hu hv=>kapA_eq ha hu hv) hu hv
theorem c172 {a:Auto}(ha:a.ok):calV U 172 [encA a]=some (.fz (nats (setsA a))):=by
 refine pure_go k172 (by kernel_rfl) (by simp[stills,still_encA]) ?_
 have hfew:=ha.few
 have hm16:2^a.lines.toNat≤2^8:=Nat.pow_le_pow_right (by omega) (by have:=ha.lines;omega)
 have nn:=noAgg_encS a.nNl (a.next.map encRow)
 have nf:=noAgg_encS a.fNl (a.fires.map encFRow)
 have cn:=cells_encS a.nNl (a.next.map encRow)
 have cf:=cells_encS a.fNl (a.fires.map encFRow)
 have hsh:=bin_shl1 U 3 true .i64 (n:=a.lines) (show 0≤a.lines∧a.lines≤16 by have:=ha.lines;omega)
 have hcast:(2^a.lines.toNat:Int)=((2^a.lines.toNat:Nat):Int):=by simp
 rw[hcast] at hsh
 have mk:=fun (ex:Ex) (t:Nat) (e:Env) (S:St) (h:Env.get e t=.int .i64 ((2^a.lines.toNat:Nat):Int))=>opA_mks283 (ex:=ex) (s:=S) h (by omega)
 obtain⟨s1,pb,bl,bp,bs,bb,be,bm,h1,P,l1,l2,l3,l4,l5,l6,l7,hn1,fr1,hs1⟩:=c214 ha (s:=(ownSt U).new (.cells [.int .i64 a.lines,encN a,encFs a] 69 false 0 0)) (Fr.own.new _)
 have P:PtI s1 pb a.fa.n bl bp bs bb be bm (rowsP (kapA a) a.fa.n):=P
 rw[encA_eq] at h1 ⊢
 unfold encN encFs at *
 have ho:(ownSt U).next=8:=rfl
 simp only[next_new,ho] at l1 l2 l3 l4 l5 l6 l7 hn1 hs1
 have g8:s1.get 8=some (.cells [.int .i64 a.lines,encS a.nNl (a.next.map encRow),encS a.fNl (a.fires.map encFRow)] 69 false 0 0):=by
  rw[hs1 8 (by omega),get_new,ho,if_pos rfl]
 simp (maxSteps:=2000000) +contextual only[go_sem,↓reduceIte,r172,nn,nf,cn,cf,k214',h1,g8,hsh,↓mk]
 have hmk:mOf a.lines=((2^a.lines.toNat:Nat):Int):=mOf_nat a.lines
 have hH:=setsA_hop ha
 have hwl:=hH.wf.few
 have hlts:=P.ltA
 refine l172b (Post:=fun r:Option AV=>r=some (AV.fz (nats (setsA a)))) ha (B:=s1.next) (ab:=8) (m:=2^a.lines.toNat) rfl ?_ ?_ ?_ ?_ ?_ ?_ ?_ ?_ ?_ (fr1.new _) ?_
 case refine_10 =>
  intro e2 s2 bx vs h2a X hs2 hn2 fr2
  rw[next_new] at hs2 hn2
  have p3:Env.get e2 3=.ptr pb 0:=by rw[h2a 3 (by omega)];simp +contextual only[go_sem,↓reduceIte]
  have p4:Env.get e2 4=.sl s1.next 0 (2^a.lines.toNat) (some (2^a.lines.toNat)) 1:=by rw[h2a 4 (by omega)];simp +contextual only[go_sem,↓reduceIte]
  have BI:=X.full (by omega)
  have P2:=P.mono (s':=s2) (by omega) fun j hj=>by
   have:=P.lt j hj
   rw[hs2 j (by omega) (by omega),get_new,if_neg (by omega)]
  have hPo:∀j,Ou s1.next s2.next j∨NotP pb bl bp bs bb be bm j:=fun j=>by unfold Ou NotP;omega
  simp (maxSteps:=2000000) +contextual only[go_sem,↓reduceIte,p3,P2.g]
  refine l172h (Post:=fun r:Option AV=>r=some (AV.fz (nats (setsA a)))) (n:=(rowsP (kapA a) a.next.length).bg.length) (by have:(rowsP (kapA a) a.next.length).bg.length≤a.next.length:=hwl;omega) ?_ ?_ ?_ fr2 ?_
  case refine_4 =>
   intro e3 s3 wv h3a h3w W hs3 hn3 fr3
   have p3':Env.get e3 3=.ptr pb 0:=by rw[h3a 3 (by omega)];simp +contextual only[go_sem,↓reduceIte,p3]
   have p4':Env.get e3 4=.sl s1.next 0 (2^a.lines.toNat) (some (2^a.lines.toNat)) 1:=by rw[h3a 4 (by omega)];simp +contextual only[go_sem,↓reduceIte,p4]
   simp (maxSteps:=2000000) +contextual only[go_sem,↓reduceIte]
   refine l172g (Post:=fun r:Option AV=>r=some (AV.fz (nats (setsA a)))) (A:=a.fa) ha.faok (N:=s2.next) (B:=s1.next) (lo:=s1.next) (hi:=s2.next) (bx:=bx) (vs:=vs) (F:=2*(a.fa.n-(rowsP (kapA a) a.fa.n).bg.length)+(rowsP (kapA a) a.fa.n).bg.length) (wv:=wv) hfew hm16 (P2.mono hn3 fun j hj=>hs3 j (P2.lt j hj)) hH ?_ ?_ p3' p4' h3w W (fun j hj=>?_) hn3 (BI.keep hn3 fun j h1 h2=>hs3 j (by omega)) hPo fr3 ?_
   ·have:a.fa.n≤256:=hfew
    omega
   ·rw[List.length_range];exact Nat.le_refl _
   ·have:=W.lt hj
    unfold NotP Ou
    omega
   ·intro e4 s4 cb ce cm q3 P4
    have hsl:(hopP (befA a.fa) a.fa.m (2*(a.fa.n-(rowsP (kapA a) a.fa.n).bg.length)+(rowsP (kapA a) a.fa.n).bg.length) (rowsP (kapA a) a.fa.n) (List.range (rowsP (kapA a) a.fa.n).bg.length)).set.length=a.fa.n:=setsA_len ha
    have hz:=frz_slN (d:=38) (cap:=some a.fa.n) hsl P4.gs
    have P4g:=P4.g
    rw[hsl] at P4g
    simp (maxSteps:=2000000) +contextual only[go_sem,↓reduceIte,q3,P4g]
    rw[frz_sl] at hz
    exact hz
  all_goals simp +contextual only[go_sem,↓reduceIte]
  all_goals rfl
 case refine_9=>rw[next_new];omega
 case refine_8=>omega
 case refine_7=>rw[next_new];omega
 case refine_6=>rw[get_new,if_pos rfl]
 case refine_5=>rw[get_new,if_neg (by omega),g8];rfl
 all_goals simp +contextual only[go_sem,↓reduceIte]
 all_goals rfl
def entN:List Nat→Nat→List (AV×AV)
 |[],_=>[]
 |k::ks,i=>(.int .i64 (k:Int),.int .i64 (i:Int))::entN ks (i+1)
theorem keyEqN (a b:Nat):keyEq (.int .i64 (a:Int)) (.int .i64 (b:Int))=some (b==a):=by
 simp only[keyEq,if_true]
 congr 1
 rw[Bool.eq_iff_iff]
 simp only[beq_iff_eq]
 omega
theorem findA_entN (k:Nat):∀(ks:List Nat) (i:Nat),findA (.int .i64 (k:Int)) (entN ks i)=some (bif decide (idxN ks k<ks.length) then some (.int .i64 ((i+idxN ks k:Nat):Int)) else none)
 |[],i=>rfl
 |x::l,i=>by
  rw[entN,findA,keyEqN,idxN]
  cases h:x==k with
  |true=>simp
  |false =>
   simp only[cond_false,List.length_cons]
   rw[findA_entN k l (i+1)]
   have e:decide (idxN l k+1<l.length+1)=decide (idxN l k<l.length):=by congr 1;apply propext;omega
   rw[e]
   congr 2
   rw[show i+1+idxN l k=i+(idxN l k+1) by omega]
theorem putA_entN (k:Nat):∀(ks:List Nat) (i:Nat),k∉ks→putA (.int .i64 (k:Int)) (.int .i64 ((i+ks.length:Nat):Int)) (entN ks i)=some (entN (ks++[k]) i)
 |[],i,_=>rfl
 |x::l,i,h=>by
  rw[List.mem_cons,not_or] at h
  have hne:(x==k)=false:=by simpa using fun e=>h.1 (Eq.symm e)
  have ih:=putA_entN k l (i+1) h.2
  rw[show i+1+l.length=i+(x::l).length by rw[List.length_cons];omega] at ih
  rw[entN,putA,keyEqN,hne,List.cons_append,entN]
  simp only[ih]
theorem lookup249 {s:St}{m:Nat}{ks:List Nat}(h:s.get m=some (.map (entN ks 0) false))(k:Nat):lookupA U 249 (.map m) (.int .i64 (k:Int)) true s=some (bif decide (idxN ks k<ks.length) then .tup [.int .i64 ((idxN ks k:Nat):Int),.bool true] else .tup [.int .i64 0,.bool false]):=by
 have hu:U.und 249=some (.map 3 3):=by kernel_rfl
 have h3:U.und 3=some (.int .i64):=by kernel_rfl
 have hz:zero U 3=some (.int .i64 0):=by kernel_rfl
 unfold lookupA
 rw[hu]
 simp only[keyOk,h3,decide_true,if_true,h,findA_entN,Nat.zero_add]
 cases decide (idxN ks k<ks.length) with
 |true=>rfl
 |false=>simp only[cond_false,hz]
theorem update249 {s:St}{m:Nat}{ks:List Nat}(h:s.get m=some (.map (entN ks 0) false)){k:Nat}(hk:k∉ks):updateA U 249 (.map m) (.int .i64 (k:Int)) (.int .i64 ((ks.length:Nat):Int)) s=some (s.put m (.map (entN (ks++[k]) 0) false)):=by
 have hu:U.und 249=some (.map 3 3):=by kernel_rfl
 have h3:U.und 3=some (.int .i64):=by kernel_rfl
 have:=putA_entN k ks 0 hk
 rw[Nat.zero_add] at this
 unfold updateA
 rw[hu]
 simp only[keyOk,h3,decide_true,if_true,h,this]
theorem k173' (args:List AV)(s:St):callK U (calV U 173 args) 173 args s=cal U 173 args s:=(callK_eq U 173 args s).symm
theorem eqn43 (l:List AV):binA U .eql 43 true (.fz l) .nils=some (.bool false):=by
 have h:U.und 43=some (.slice 4):=by kernel_rfl
 simp only[binA,eqTop,eqT,h]
theorem source_bools (l:List Bool)(s:St):sourceA 1 (.fz (bools l)) s=some (l.length,bools l):=by
 have h1:(bools l).all (fun x=>x.cells.length==1)=true:=by
  induction l with
  |nil=>rfl
  |cons t ts ih=>rw[bools,List.map_cons,List.all_cons];exact ih
 have h2:(bools l).flatMap AV.cells=bools l:=by
  clear h1
  induction l with
  |nil=>rfl
  |cons t ts ih=>rw[bools,List.map_cons,List.flatMap_cons];show AV.cells (.bool t)++(bools ts).flatMap AV.cells=_;rw[ih];rfl
 simp only[sourceA,h1,h2,bools_len]
 rfl
theorem c173 (l:List Bool)(h0:l≠[])(hl:l.length≤2^20)(s:St):cal U 173 [.fz (bools l)] s=some (.sl (s.next+1) 0 l.length none 1,(s.new (.cells [] 4 false 0 0)).new (.cells (bools l) 4 false 0 0)):=by
 refine kept_go k173 (by kernel_rfl) ?_
 have hpos:0<l.length:=List.length_pos_iff.2 h0
 have hap:∀S:St,S.get s.next=some (.cells [] 4 false 0 0)→appK 4 1 1 (.sl s.next 0 0 (some 0) 1) (some (l.length,bools l)) S=some (.sl S.next 0 (0+l.length) none 1,S.new (.cells ([]++bools l) 4 false 0 0)):=fun S h=>by
  rw[appK_some (by rw[bools_len,Nat.mul_one]) (by simp only[lenA_sl];omega) (by simp only[lenA_sl];omega) (by omega),appD_slk h rfl (by omega)]
 simp (maxSteps:=2000000) +contextual only[go_sem,↓reduceIte,r173,eqn43,source_bools,hap,Nat.zero_add,List.nil_append]
theorem frow_fires {a:Auto}(ha:a.ok){s:Nat}(hs:s<a.fires.length):a.fires[s].2=frow a.fa s:=by
 have h1:=ha.frow s hs
 refine List.ext_getElem (by rw[h1,frow_len];rfl) fun x q1 q2=>?_
 rw[frow_at a.fa s (by show x<2^a.lines.toNat;omega)]
 show _=(a.fires.getD s (true,[])).2.getD x false
 rw[getD_at hs,getD_at q1]
theorem appC {s:St}{b n:Nat}{cap:Option Nat}{L:List Nat}(hc:cap=none∨cap=some n)(hL:L.length=n)(hg:s.get b=some (.cells (nats L) 3 false 0 0))(hb:b<s.next)(k:Nat) :
  ∃s1,appD 3 1 1 [.int .i64 (k:Int)] (.sl b 0 n cap 1) s=some (.sl s.next 0 (n+1) none 1,s1)∧s1.next=s.next+1∧s1.get s.next=some (.cells (nats (L++[k])) 3 false 0 0)∧(∀j,j<s.next→j≠b→s1.get j=s.get j)∧(Fr s→Fr s1):=by
 rcases hc with rfl|rfl
 ·refine⟨_,appX' hL hg k,rfl,?_,fun j h1 h2=>?_,fun hf=>(hf.put hb _).new _⟩
  ·rw[get_new,next_put,if_pos rfl]
  ·rw[get_new,next_put,if_neg (by omega),get_put,if_neg h2.symm]
 ·refine⟨s.new (.cells (nats (L++[k])) 3 false 0 0),?_,rfl,?_,fun j h1 h2=>?_,fun hf=>hf.new _⟩
  ·rw[appD_slk hg (by rw[nats_len,hL,Nat.mul_one]) (by omega),nats_app]
  ·rw[get_new,if_pos rfl]
  ·rw[get_new,if_neg (by omega)]
theorem SlI.lenA {s:St}{N:Nat}{L:List Nat}{v:AV}(h:SlI s N L v):Go.Am.lenA v=L.length:=by
 rcases h with⟨rfl,rfl⟩|⟨b,rfl,h2,h3,h4⟩ <;> rfl
theorem SlI.app {s:St}{N:Nat}{L:List Nat}{v:AV}(h:SlI s N L v)(hN:N≤s.next)(k:Nat) :
  ∃s1,appD 3 1 1 [.int .i64 (k:Int)] v s=some (.sl s.next 0 (L.length+1) none 1,s1)∧s1.next=s.next+1∧SlI s1 N (L++[k]) (.sl s.next 0 (L.length+1) none 1)∧(∀j,j<s.next→¬isB v j→s1.get j=s.get j)∧(Fr s→Fr s1):=by
 rcases h with⟨rfl,rfl⟩|⟨b,rfl,h2,h3,h4⟩
 ·refine⟨_,appD_nils _ _ _ _ _,rfl,.inr ⟨s.next,rfl,?_,hN,by rw[next_new];omega⟩,fun j hj _=>by rw[get_new,if_neg (by omega)],fun hf=>hf.new _⟩
  rw[get_new,if_pos rfl];rfl
 ·refine⟨_,appX' rfl h2 k,rfl,.inr ⟨s.next,by simp,?_,hN,by rw[next_new,next_put];omega⟩,fun j hj hb=>?_,fun hf=>(hf.put h4 _).new _⟩
  ·rw[get_new,next_put,if_pos rfl]
  ·rw[isB_sl] at hb
   rw[get_new,next_put,if_neg (by omega),get_put,if_neg hb]
noncomputable def kapS (a:Auto)(u:Nat):Nat:=gt (setsA a) u
theorem rowF_len (A:Fa)(q:Nat):(rowF A q).length=A.m:=by simp[rowF]
theorem rowF_at (A:Fa)(q:Nat){x:Nat}(h:x<A.m):(rowF A q)[x]'(by rw[rowF_len];exact h)=A.nx q x:=by simp[rowF]
theorem l104a {β:Type}{fin:Fl→β}{ks:List K}{Post:β→Prop}{a:Auto}(ha:a.ok){L:List Nat}{q b m:Nat}{cap:Option Nat}(hq:q<a.next.length)(hcap:cap=none∨cap=some L.length)(hLn:∀z∈L,z<a.next.length)(hnd:(L.map (kapS a)).Nodup)(hbm:b≠m)
  {e:Env}{s:St}(g3:Env.get e 3=.fz (nats (setsA a)))(g4:Env.get e 4=.map m)(g5:Env.get e 5=.sl b 0 L.length cap 1)(g8:Env.get e 8=.nils)(g37:Env.get e 37=encS a.next[q].1 (ints a.next[q].2))(g38:Env.get e 38=.int .i64 ((2^a.lines.toNat:Nat):Int))(g39:Env.get e 39=.int .i64 (0:Nat))
  (gm:s.get m=some (.map (entN (L.map (kapS a)) 0) false))(gb:s.get b=some (.cells (nats L) 3 false 0 0))(nb:b<s.next)(nm:m<s.next)(fr:Fr s)
  (hk:∀e' s' b' cap' rv,(∀t:Nat,t<10→t≠5→t≠8→Env.get e' t=Env.get e t)→Env.get e' 5=.sl b' 0 (numRow (kapS a) (rowF a.fa q) L).1.length cap' 1→(cap'=none∨cap'=some (numRow (kapS a) (rowF a.fa q) L).1.length)→(b'=b∨s.next≤b')→b'<s'.next →
   s'.get b'=some (.cells (nats (numRow (kapS a) (rowF a.fa q) L).1) 3 false 0 0)→s'.get m=some (.map (entN ((numRow (kapS a) (rowF a.fa q) L).1.map (kapS a)) 0) false)→Env.get e' 8=rv→SlI s' s.next (numRow (kapS a) (rowF a.fa q) L).2 rv→(∀j,isB rv j→j≠b') →
   (∀j,j<s.next→j≠b→j≠m→s'.get j=s.get j)→s.next≤s'.next→Fr s'→Post (goN U fin ks e' s')) :
  Post (goL U fin (.bk 2::ks) r104_l0 e s):=by
 have hfew:=ha.few
 have hA:=ha.faok
 have hm16:=ha.m16
 have hTl:(rowF a.fa q).length=2^a.lines.toNat:=rowF_len a.fa q
 obtain⟨_,_,_,hkl,_⟩:=numRow_nd (κ:=kapS a) (rowF a.fa q) L hnd
 have hkl:(numRow (kapS a) (rowF a.fa q) L).2.length=2^a.lines.toNat:=by rw[hkl,hTl]
 generalize hk2:(numRow (kapS a) (rowF a.fa q) L).2=kf at *
 generalize hk1:(numRow (kapS a) (rowF a.fa q) L).1=Lf at *
 refine loop_ex (σ:=Nat) (fun x=>2^a.lines.toNat-x) (fun x e' s'=>x≤2^a.lines.toNat∧(∀t:Nat,t<10∨12<t∧t<39→t≠5→t≠8→Env.get e' t=Env.get e t)∧Env.get e' 39=.int .i64 (x:Nat) ∧
   (∀j,j<s.next→j≠b→j≠m→s'.get j=s.get j)∧s.next≤s'.next∧Fr s' ∧
   ∃L' b' cap' rv,numRow (kapS a) ((rowF a.fa q).drop x) L'=(Lf,kf.drop x)∧(∀z∈L',z<a.next.length)∧(L'.map (kapS a)).Nodup ∧
    Env.get e' 5=.sl b' 0 L'.length cap' 1∧(cap'=none∨cap'=some L'.length)∧(b'=b∨s.next≤b')∧b'<s'.next∧s'.get b'=some (.cells (nats L') 3 false 0 0)∧s'.get m=some (.map (entN (L'.map (kapS a)) 0) false) ∧
    Env.get e' 8=rv∧SlI s' s.next (kf.take x) rv∧(∀j,isB rv j→j≠b')) 0 ?_
  ⟨Nat.zero_le _,fun _ _ _ _=>rfl,g39,fun _ _ _ _=>rfl,Nat.le_refl _,fr,
   L,b,cap,.nils,by rw[List.drop_zero,List.drop_zero,←hk1,←hk2],hLn,hnd,g5,hcap,.inl rfl,nb,gb,gm,g8,.inl ⟨rfl,rfl⟩,fun j hj=>absurd hj (isB_nils j)⟩
 rintro Lp x e' s' ⟨hx,hold,q39,hs,hnx,fr',L',b',cap',rv,hnum,hLn',hnd',q5,hcap',hb',nb',qb,qm,q8,hR,hRf⟩ IH
 have q3:=(hold 3 (by omega) (by omega) (by omega)).trans g3
 have q4:=(hold 4 (by omega) (by omega) (by omega)).trans g4
 have q37:=(hold 37 (by omega) (by omega) (by omega)).trans g37
 have q38:=(hold 38 (by omega) (by omega) (by omega)).trans g38
 have hL'n:L'.length≤a.next.length:=nodup_few hnd' hLn'
 by_cases hd:x<2^a.lines.toNat
 ·have hw:=wrap_succ hd (by omega)
  have hxm:x<(rowF a.fa q).length:=by omega
  have lt1:a.fa.nx q x<a.next.length:=hA.lt q x hq hd
  have n1:=ha.nxAt hq hd
  have o1:=ixa_natsF (l:=setsA a) (i:=a.fa.nx q x) (by rw[setsA_len ha];exact lt1)
  have hTx:(rowF a.fa q)[x]=a.fa.nx q x:=rowF_at a.fa q hd
  have hxk:x<kf.length:=by omega
  rw[List.drop_eq_getElem_cons hxm,hTx,List.drop_eq_getElem_cons hxk,numRow] at hnum
  have o1:ixRA 1 (.fz (nats (setsA a))) (.int .i64 ((a.fa.nx q x:Nat):Int))=some (.fp [.int .i64 ((kapS a (a.fa.nx q x):Nat):Int)] 0):=o1
  generalize hc:a.fa.nx q x=c at *
  have lk:=fun (S:St) (h:S.get m=some (.map (entN (L'.map (kapS a)) 0) false))=>lookup249 h (kapS a c)
  have htk:kf.take (x+1)=kf.take x++[kf[x]]:=by rw[List.take_succ_eq_append_getElem hxk]
  have hRl:(kf.take x).length=x:=by rw[List.length_take];omega
  have hlA:=hR.lenA
  rw[hRl] at hlA
  have hb1:(x+1)*8≤1099511627776:=by omega
  have hb2:x+1≤1099511627776:=by omega
  have hb3:(L'.length+1)*8≤1099511627776:=by omega
  have hb4:L'.length+1≤1099511627776:=by omega
  have hlm:(L'.map (kapS a)).length=L'.length:=by simp
  have hnt:∀t:Nat,t<10∨12<t∧t<39→t≠5→t≠8→(5=t)=False∧(8=t)=False∧(10=t)=False∧(11=t)=False∧(12=t)=False∧∀k:Nat,39≤k→(k=t)=False:=fun t h1 h2 h3=>⟨by simp;omega,by simp;omega,by simp;omega,by simp;omega,by simp;omega,fun k hk=>by simp;omega⟩
  by_cases hin:idxN (L'.map (kapS a)) (kapS a c)<L'.length
  ·rw[decide_eq_true hin] at hnum
   simp only[cond_true] at hnum
   have hrest:numRow (kapS a) ((rowF a.fa q).drop (x+1)) L'=(Lf,kf.drop (x+1)):=by
    have h1:=congrArg Prod.fst hnum
    have h2:=congrArg Prod.snd hnum
    simp only[List.cons.injEq] at h1 h2
    exact Prod.ext h1 h2.2
   have hkx:kf[x]=idxN (L'.map (kapS a)) (kapS a c):=by
    have h2:=congrArg Prod.snd hnum
    simp only[List.cons.injEq] at h2
    exact h2.1.symm
   rw[hlm,decide_eq_true hin] at lk
   simp only[cond_true] at lk
   rw[←hkx] at lk
   simp (maxSteps:=2000000) +contextual only[go_sem,↓reduceIte,r104_l0,q3,q4,q5,q8,q37,q38,q39,qm,nat_lt_dec,hd,n1,o1,lk,hw,Nat.mul_one,Nat.one_mul,appK_some,Nat.reducePow,hlA,hb1,hb2]
   have R3:SlI (s'.new (.cells [.int .i64 ((kf[x]:Nat):Int)] 3 false 0 0)) s.next (kf.take x) rv:=hR.keep (by rw[next_new];omega) fun j h1 _ _=>by rw[get_new,if_neg (by omega)]
   obtain⟨s4,d1,d2,d3,d4,d5⟩:=R3.app (by rw[next_new];omega) kf[x]
   rw[next_new] at d1 d2 d3 d4
   rw[hRl] at d1 d3
   rw[d1]
   simp (maxSteps:=2000000) +contextual only[go_sem,↓reduceIte,q39,hw]
   have k4:∀j,j<s'.next→¬isB rv j→s4.get j=s'.get j:=fun j h1 h2=>by rw[d4 j (by omega) h2,get_new,if_neg (by omega)]
   have hrv:∀j,j<s.next→¬isB rv j:=fun j hj h=>by have:=hR.lt h;omega
   refine IH (x+1) _ _ (by omega) ⟨by omega,fun t h1 h2 h3=>?_,?_,fun j h1 h2 h3=>by rw[k4 j (by omega) (hrv j h1),hs j h1 h2 h3],by omega,d5 (fr'.new _),L',b',cap',.sl (s'.next+1) 0 (x+1) none 1,hrest,hLn',hnd',?_,hcap',hb',by omega,(k4 b' nb' fun h=>hRf b' h rfl).trans qb,(k4 m (by omega) (hrv m nm)).trans qm,?_,by rw[htk];exact d3,fun j hj=>?_⟩
   ·obtain⟨n5,n8,n10,n11,n12,n39⟩:=hnt t h1 h2 h3
    simp +contextual only[go_sem,↓reduceIte,n5,n8,n10,n11,n12,n39]
    exact hold t h1 h2 h3
   ·simp +contextual only[go_sem,↓reduceIte]
   ·simp +contextual only[go_sem,↓reduceIte,q5]
   ·simp +contextual only[go_sem,↓reduceIte]
   ·rw[isB_sl] at hj;omega
  ·have hinM:kapS a c∉L'.map (kapS a):=by rw[←idxN_lt,hlm];exact hin
   rw[decide_eq_false hin] at hnum
   simp only[cond_false] at hnum
   have hrest:numRow (kapS a) ((rowF a.fa q).drop (x+1)) (L'++[c])=(Lf,kf.drop (x+1)):=by
    have h1:=congrArg Prod.fst hnum
    have h2:=congrArg Prod.snd hnum
    simp only[List.cons.injEq] at h1 h2
    exact Prod.ext h1 h2.2
   have hkx:kf[x]=L'.length:=by
    have h2:=congrArg Prod.snd hnum
    simp only[List.cons.injEq] at h2
    exact h2.1.symm
   rw[hlm,decide_eq_false hin] at lk
   simp only[cond_false] at lk
   have up:=fun (S:St) (h:S.get m=some (.map (entN (L'.map (kapS a)) 0) false))=>update249 h hinM
   rw[hlm] at up
   have hlA2:∀c:Option Nat,Go.Am.lenA (.sl b' 0 L'.length c 1)=L'.length:=fun _=>rfl
   simp (maxSteps:=2000000) +contextual only[go_sem,↓reduceIte,r104_l0,q3,q4,q5,q8,q37,q38,q39,qm,nat_lt_dec,hd,n1,o1,lk,up,hw,Nat.mul_one,Nat.one_mul,appK_some,Nat.reducePow,hb3,hb4]
   obtain⟨s4,d1,d2,d3,d4,d5⟩:=appC (b:=b') (L:=L') (s:=(s'.put m (.map (entN (L'.map (kapS a)++[kapS a c]) 0) false)).new (.cells [.int .i64 (c:Int)] 3 false 0 0)) hcap' rfl (by rw[get_new,next_put,if_neg (by omega),get_put,if_neg (by omega)];exact qb) (by rw[next_new,next_put];omega) c
   simp only[next_new,next_put] at d1 d2 d3 d4
   rw[d1]
   simp (maxSteps:=2000000) +contextual only[go_sem,↓reduceIte,q8,Nat.mul_one,Nat.one_mul,appK_some,Nat.reducePow,hlA,hb1,hb2]
   have k4:∀j,j<s'.next→j≠b'→j≠m→s4.get j=s'.get j:=fun j h1 h2 h3=>by rw[d4 j (by omega) h2,get_new,next_put,if_neg (by omega),get_put,if_neg h3.symm]
   have k4m:s4.get m=some (.map (entN (L'.map (kapS a)++[kapS a c]) 0) false):=by rw[d4 m (by omega) (by omega),get_new,next_put,if_neg (by omega),get_put,if_pos rfl]
   have hrv:∀j,j<s.next→¬isB rv j:=fun j hj h=>by have:=hR.lt h;omega
   have R3:SlI (s4.new (.cells [.int .i64 (L'.length:Int)] 3 false 0 0)) s.next (kf.take x) rv:=hR.keep (by rw[next_new];omega) fun j h1 h2 h3=>by
    rw[get_new,if_neg (by omega)]
    exact k4 j h1 (hRf j h3) (by omega)
   obtain⟨s6,b1,b2,b3,b4,b5⟩:=R3.app (by rw[next_new];omega) L'.length
   rw[next_new] at b1 b2 b3 b4
   rw[hRl] at b1 b3
   rw[b1]
   simp (maxSteps:=2000000) +contextual only[go_sem,↓reduceIte,q39,hw]
   have k6:∀j,j<s4.next→¬isB rv j→s6.get j=s4.get j:=fun j h1 h2=>by rw[b4 j (by omega) h2,get_new,if_neg (by omega)]
   refine IH (x+1) _ _ (by omega) ⟨by omega,fun t h1 h2 h3=>?_,?_,fun j h1 h2 h3=>by rw[k6 j (by omega) (hrv j h1),k4 j (by omega) (by omega) h3,hs j h1 h2 h3],by omega,b5 ((d5 ((fr'.put (by omega) _).new _)).new _),L'++[c],s'.next+1,none,.sl (s4.next+1) 0 (x+1) none 1,hrest,fun z hz=>?_,?_,?_,.inl rfl,.inr (by omega),by omega,(k6 _ (by omega) fun h=>by have:=hR.lt h;omega).trans d3,?_,?_,by rw[htk,hkx];exact b3,fun j hj=>?_⟩
   ·obtain⟨n5,n8,n10,n11,n12,n39⟩:=hnt t h1 h2 h3
    simp +contextual only[go_sem,↓reduceIte,n5,n8,n10,n11,n12,n39]
    exact hold t h1 h2 h3
   ·simp +contextual only[go_sem,↓reduceIte]
   ·rcases List.mem_append.1 hz with h|h
    ·exact hLn' z h
    ·rw[List.mem_singleton.1 h];exact lt1
   ·rw[List.map_append,List.nodup_append]
    refine⟨hnd',by simp,fun y hy z hz=>?_⟩
    rw[List.map_cons,List.map_nil,List.mem_singleton] at hz
    rintro rfl
    rw[hz] at hy
    exact hinM hy
   ·simp +contextual only[go_sem,↓reduceIte,List.length_append,List.length_singleton]
   ·rw[k6 m (by omega) (hrv m nm),k4m,List.map_append,List.map_cons,List.map_nil]
   ·simp +contextual only[go_sem,↓reduceIte]
   ·rw[isB_sl] at hj;omega
 ·have hxe:x=2^a.lines.toNat:=by omega
  subst hxe
  rw[List.drop_of_length_le (by omega),List.drop_of_length_le (by omega),numRow] at hnum
  obtain rfl:L'=Lf:=congrArg Prod.fst hnum
  rw[List.take_of_length_le (by omega)] at hR
  simp (maxSteps:=2000000) +contextual only[go_sem,↓reduceIte,r104_l0,q38,q39,nat_lt_dec,Nat.lt_irrefl]
  refine hk _ _ b' cap' rv (fun t h1 h2 h3=>?_) ?_ hcap' hb' nb' qb qm ?_ hR hRf hs hnx fr'
  ·have hne:∀k:Nat,39≤k→(k=t)=False:=fun k hk=>by simp;omega
   simp +contextual only[go_sem,↓reduceIte,hne]
   exact hold t (.inl h1) h2 h3
  ·simp +contextual only[go_sem,↓reduceIte,q5]
  ·simp +contextual only[go_sem,↓reduceIte,q8]
theorem appX1 {s:St}{b n:Nat}{t:TypeId}{cs:List AV}(hL:cs.length=n)(hg:s.get b=some (.cells cs t false 0 0))(x:AV)(hx:noAgg x=true) :
  appD t 1 1 [x] (.sl b 0 n none 1) s=some (.sl s.next 0 (n+1) none 1,(s.put b .gone).new (.cells (cs++[x]) t false 0 0)):=by
 rw[appD_sl,hg,appS_cells (by omega) (by omega) (by simp[hx])]
theorem blk_ne {s:St}{j k:Nat}{c c':List AV}{t t':TypeId}(h:s.get j=some (.cells c t false 0 0))(h':s.get k=some (.cells c' t' false 0 0))(ht:t≠t'):j≠k:=by
 rintro rfl
 have:=h.symm.trans h'
 injection this with this
 injection this with _ e
 exact ht e
theorem l104r {β:Type}{fin:Fl→β}{ks:List K}{Post:β→Prop}{a:Auto}(ha:a.ok){L:List Nat}{q b i ob jr:Nat}{cap:Option Nat}{cN cF:List AV}{v w:AV}(hq:q<a.next.length)(hi:i<L.length)(hLi:gt L i=q)(hi9:i≤2^20)
  {e:Env}{s:St}(g1:Env.get e 1=.ptr 8 0)(g5:Env.get e 5=.sl b 0 L.length cap 1)(g6:Env.get e 6=.ptr ob 0)(g7:Env.get e 7=.int .i64 (i:Int))(g8:Env.get e 8=.sl jr 0 (2^a.lines.toNat) none 1)
  (gs:s.get 8=some (.cells [.int .i64 a.lines,encN a,encFs a] 69 false 0 0))(gout:s.get ob=some (.cells [.int .i64 a.lines,v,w] 69 false 0 0))(gb:s.get b=some (.cells (nats L) 3 false 0 0))(h8:8<s.next)(hob:ob<s.next)(hb:b<s.next)(h8o:8≠ob)(h13:13≤s.next)
  (hv:RowI s 13 40 1 i cN v)(hw:RowI s 13 43 1 i cF w)(fr:Fr s)
  (hk:∀e' s' v' w' jc,(∀t:Nat,t<10→Env.get e' t=Env.get e t)→s'.get ob=some (.cells [.int .i64 a.lines,v',w'] 69 false 0 0)→RowI s' 13 40 1 (i+1) (cN++[.sl jr 0 (2^a.lines.toNat) none 1]) v'→RowI s' 13 43 1 (i+1) (cF++[.sl jc 0 (2^a.lines.toNat) none 1]) w' →
   s'.get jc=some (.cells (bools (frow a.fa q)) 4 false 0 0)→s.next≤jc→jc<s'.next→(∀j,j<s.next→j≠ob→¬isB v j→¬isB w j→s'.get j=s.get j)→s.next≤s'.next→Fr s'→Post (goN U fin ks e' s')) :
  Post (go U fin ks (.raw q104_0) e s):=by
 have hfew:=ha.few
 rw[go_drcU d104_0]
 have hfk:=fr.at
 have hnt:∀t:Nat,t<10→(∀k:Nat,71≤k→(k=t)=False):=fun t ht=>fun k hk=>by simp;omega
 have hN1:∀j q,j<s.next→(j=s.next+q)=False:=fun j q hj=>by simp;omega
 have hN2:∀j q,j<s.next→(s.next+q=j)=False:=fun j q hj=>by simp;omega
 have hN3:∀q,q≠0→(s.next+q=s.next)=False:=fun q hq=>by simp;omega
 have hN4:∀q,q≠0→(s.next=s.next+q)=False:=fun q hq=>by simp;omega
 have hq':q<a.fires.length:=by rw[ha.fl];exact hq
 have hfl:(frow a.fa q).length=2^a.lines.toNat:=frow_len a.fa q
 have hm16:=ha.m16
 have hmp:0<2^a.lines.toNat:=Nat.two_pow_pos _
 have r2:=ixa_rowB (nl:=a.fNl) hq'
 have hrow:=frow_fires ha hq'
 have hne:frow a.fa q≠[]:=fun e=>by rw[e,List.length_nil] at hfl;omega
 have henc:encS a.fires[q].1 (bools a.fires[q].2)=.fz (bools (frow a.fa q)):=by
  rw[hrow]
  cases hh:bools (frow a.fa q) with
  |nil=>have:=congrArg List.length hh;rw[bools_len,hfl,List.length_nil] at this;omega
  |cons x l=>cases a.fires[q].1 <;> rfl
 rw[henc] at r2
 have hcl:=c173 (frow a.fa q) hne (by omega)
 rw[hfl] at hcl
 have o1:=nats_get (l:=L) (i:=i) hi
 rw[hLi] at o1
 unfold encN encFs at gs
 have x1:(ob=8)=False:=eq_false (fun e=>h8o e.symm)
 have x2:(8=ob)=False:=eq_false h8o
 have hb1:(i+1)*24≤1099511627776:=by omega
 have hb2:i+1≤1099511627776:=by omega
 have hob':b≠ob:=blk_ne gb gout (by decide)
 have hb8:b≠8:=blk_ne gb gs (by decide)
 have x3:(b=ob)=False:=eq_false hob'
 have x4:(ob=b)=False:=eq_false hob'.symm
 have key:∀(E:Env) (S:St),(∀t:Nat,t<10→Env.get E t=Env.get e t) →
   S.get ob=some (.cells [.int .i64 a.lines,.sl (s.next+22) 0 (i+1) none 1,.sl (s.next+25) 0 (i+1) none 1] 69 false 0 0) →
   S.get (s.next+22)=some (.cells (cN++[.sl jr 0 (2^a.lines.toNat) none 1]) 40 false 0 0)→S.get (s.next+25)=some (.cells (cF++[.sl (s.next+24) 0 (2^a.lines.toNat) none 1]) 43 false 0 0)→S.get (s.next+24)=some (.cells (bools (frow a.fa q)) 4 false 0 0) →
   (∀j,j<s.next→j≠ob→¬isB v j→¬isB w j→S.get j=s.get j)→s.next+25<S.next→Fr S→cN.length=i→cF.length=i→Post (goN U fin ks E S):=by
  intro E S k1 k2 k3 k4 k5 k6 k7 k8 k9 k10
  exact hk E S (.sl (s.next+22) 0 (i+1) none 1) (.sl (s.next+25) 0 (i+1) none 1) (s.next+24) k1 k2 (.inr ⟨by omega,by simp[k9],s.next+22,by omega,by omega,rfl,k3⟩) (.inr ⟨by omega,by simp[k10],s.next+25,by omega,by omega,rfl,k4⟩) k5 (by omega) (by omega) k6 (by omega) k8
 rcases hv with⟨i0,rfl,rfl⟩|⟨i0,hcN,bv,v1,v2,rfl,v4⟩
 ·rcases hw with⟨_,rfl,rfl⟩|⟨i1,_⟩
  ·subst i0
   simp (maxSteps:=2000000) +contextual only[go_sem,↓reduceIte,g1,g5,g6,g7,g8,gs,gout,gb,hi,o1,r2,k173',hcl,appD_nils,appK_some,Nat.mul_one,Nat.one_mul,Nat.reducePow,Nat.zero_add,Nat.add_assoc,hfk,h8,hob,hb,hN1,hN2,hN3,hN4,x1,x2,x3,x4,hb1,hb2]
   refine key _ _ (fun t ht=>?_) ?_ ?_ ?_ ?_ (fun j h1 h2 _ _=>?_) ?_ ?_ rfl rfl
   ·have hne:=hnt t ht
    simp +contextual only[go_sem,↓reduceIte,hne]
   ·simp +contextual only[go_sem,↓reduceIte]
   ·simp +contextual [go_sem,↓reduceIte,hN1,hN2,hob,Nat.add_assoc]
   ·simp +contextual [go_sem,↓reduceIte,hN1,hN2,hob,Nat.add_assoc]
   ·simp +contextual [go_sem,↓reduceIte,hN1,hN2,hob,Nat.add_assoc]
   ·have e0:∀q,(s.next+q=j)=False:=fun q=>by simp;omega
    simp +contextual only[get_put,get_new,next_put,next_new,upto_next,upto_get,Nat.add_assoc,Nat.reduceAdd,e0,eq_false h2.symm,if_false]
   ·simp only[next_put,next_new,upto_next];omega
   ·repeat first|exact fr|apply Fr.new|apply Fr.put|apply Fr.upto
    all_goals try simp only[next_put,next_new,upto_next]
    all_goals omega
  ·omega
 ·rcases hw with⟨i1,_⟩|⟨_,hcF,bw,w1,w2,rfl,w4⟩
  ·omega
  ·rw[Nat.mul_one] at hcN hcF
   have n1:=blk_ne v4 w4 (by decide)
   have n2:=blk_ne v4 gout (by decide)
   have n3:=blk_ne w4 gout (by decide)
   have n4:=blk_ne v4 gb (by decide)
   have n5:=blk_ne w4 gb (by decide)
   have n6:=blk_ne v4 gs (by decide)
   have n7:=blk_ne w4 gs (by decide)
   have y1:(bv=bw)=False:=eq_false n1
   have y2:(bv=ob)=False:=eq_false n2
   have y3:(bw=ob)=False:=eq_false n3
   have y4:(bv=b)=False:=eq_false n4
   have y5:(bw=b)=False:=eq_false n5
   have y6:(bv=8)=False:=eq_false n6
   have y7:(bw=8)=False:=eq_false n7
   have y8:(ob=bv)=False:=eq_false n2.symm
   have y9:(ob=bw)=False:=eq_false n3.symm
   have y10:(bw=bv)=False:=eq_false n1.symm
   have a1:=fun (S:St) (h:S.get bv=some (.cells cN 40 false 0 0))=>appX1 hcN h (.sl jr 0 (2^a.lines.toNat) none 1) rfl
   have a2:=fun (S:St) (h:S.get bw=some (.cells cF 43 false 0 0))=>appX1 hcF h (.sl (s.next+24) 0 (2^a.lines.toNat) none 1) rfl
   simp (maxSteps:=2000000) +contextual only[go_sem,↓reduceIte,g1,g5,g6,g7,g8,gs,gout,gb,hi,o1,r2,k173',hcl,appK_some,Nat.mul_one,Nat.one_mul,Nat.reducePow,Nat.zero_add,Nat.add_assoc,hfk,h8,hob,hb,hN1,hN2,hN3,hN4,x1,x2,x3,x4,hb1,hb2,v2,v4,w2,w4,y1,y2,y3,y4,y5,y6,y7,y8,y9,y10,a1,a2]
   refine key _ _ (fun t ht=>?_) ?_ ?_ ?_ ?_ (fun j h1 h2 h3 h4=>?_) ?_ ?_ hcN hcF
   ·have hne:=hnt t ht
    simp +contextual only[go_sem,↓reduceIte,hne]
   ·simp +contextual only[go_sem,↓reduceIte]
   ·simp +contextual [go_sem,↓reduceIte,hN1,hN2,hob,v2,w2,Nat.add_assoc]
   ·simp +contextual [go_sem,↓reduceIte,hN1,hN2,hob,v2,w2,Nat.add_assoc]
   ·simp +contextual [go_sem,↓reduceIte,hN1,hN2,hob,v2,w2,Nat.add_assoc]
   ·have e0:∀q,(s.next+q=j)=False:=fun q=>by simp;omega
    rw[isB_sl] at h3 h4
    simp +contextual only[get_put,get_new,next_put,next_new,upto_next,upto_get,Nat.add_assoc,Nat.reduceAdd,e0,eq_false h2.symm,eq_false h3,eq_false h4,if_false]
   ·simp only[next_put,next_new,upto_next];omega
   ·repeat first|exact fr|apply Fr.new|apply Fr.put|apply Fr.upto
    all_goals try simp only[next_put,next_new,upto_next]
    all_goals omega
def BlkJ (s:St)(b:Nat)(t:TypeId)(c:AV)(l:List AV):Prop:=∃j cap,c=.sl j 0 l.length cap 1∧j<s.next∧j≠b∧13≤j∧s.get j=some (.cells l t false 0 0)
theorem BlkJ.mono {s s':St}{b b':Nat}{t:TypeId}{c:AV}{l:List AV}(h:BlkJ s b t c l)(hn:s.next≤s'.next)(hg:∀j,j<s.next→j≠b→13≤j→s.get j=some (.cells l t false 0 0)→j≠b'∧s'.get j=some (.cells l t false 0 0)):BlkJ s' b' t c l:=by
 obtain⟨j,cap,h1,h2,h3,h4,h5⟩:=h
 obtain⟨h6,h7⟩:=hg j h2 h3 h4 h5
 exact⟨j,cap,h1,by omega,h6,h4,h7⟩
theorem BlkJ.frz {s:St}{b d:Nat}{c:AV}{l:List AV}{t:TypeId}(h:BlkJ s b t c l)(hag:isAggT U t=some false)(hsz:size U t=some 1)(hna:l.all noAgg=true)(hf:mapO (Go.Am.frz U s d) l=some l):Go.Am.frz U s (d+1) c=some (.fz l):=by
 obtain⟨j,cap,rfl,_,_,_,h5⟩:=h
 rw[frz_sl,h5,frzS_cells,Nat.mul_one,grab_all,hag,hsz,frzT_one,if_pos hna,chunks_all,hf,fzK_some]
theorem RowI.isB_t {s:St}{B:Nat}{t:TypeId}{i:Nat}{cs:List AV}{v:AV}(h:RowI s B t 1 i cs v){j:Nat}(hj:isB v j):B≤j∧j<s.next∧s.get j=some (.cells cs t false 0 0):=by
 rcases h with⟨_,rfl,_⟩|⟨_,_,b,h2,h3,rfl,h5⟩
 ·exact absurd hj (isB_nils j)
 ·rw[isB_sl] at hj;subst hj;exact⟨h2,h3,h5⟩
structure MinRows (s:St)(b:Nat)(a:Auto)(cN cF:List AV)(v w:AV):Prop where
 v:RowI s 13 40 1 cN.length cN v
 w:RowI s 13 43 1 cF.length cF w
 ln:cN.length=(minP a.fa (kapS a)).length
 lf:cF.length=(minP a.fa (kapS a)).length
 bn:∀j (h:j<(minP a.fa (kapS a)).length) (h':j<cN.length),BlkJ s b 3 cN[j] (nats (minP a.fa (kapS a))[j].2)
 bf:∀j (h:j<(minP a.fa (kapS a)).length) (h':j<cF.length),BlkJ s b 4 cF[j] (bools (frow a.fa (minP a.fa (kapS a))[j].1))
 h9:b≠9
theorem MinRows.keep {s S:St}{b:Nat}{a:Auto}{cN cF:List AV}{v w:AV}(h:MinRows s b a cN cF v w)(hn:S.next=s.next)(hg:∀j,j≠9→S.get j=s.get j):MinRows S b a cN cF v w :=
 ⟨h.v.keepT (by omega) fun j c h _ h2=>by rw[hg j (by omega)];exact h,h.w.keepT (by omega) fun j c h _ h2=>by rw[hg j (by omega)];exact h,h.ln,h.lf,
  fun j h1 h'=>(h.bn j h1 h').mono (by omega) fun k _ h2 h3 h5=>⟨h2,by rw[hg k (by omega)];exact h5⟩,fun j h1 h'=>(h.bf j h1 h').mono (by omega) fun k _ h2 h3 h5=>⟨h2,by rw[hg k (by omega)];exact h5⟩,h.h9⟩
theorem MinRows.na {s:St}{b:Nat}{a:Auto}{cN cF:List AV}{v w:AV}(h:MinRows s b a cN cF v w):cN.all noAgg=true∧cF.all noAgg=true:=by
 have h1:=h.ln
 have h2:=h.lf
 refine⟨?_,?_⟩
 ·rw[List.all_eq_true]
  intro x hx
  obtain⟨j,hj,rfl⟩:=List.mem_iff_getElem.1 hx
  obtain⟨_,_,e,_⟩:=h.bn j (by omega) hj
  rw[e];rfl
 ·rw[List.all_eq_true]
  intro x hx
  obtain⟨j,hj,rfl⟩:=List.mem_iff_getElem.1 hx
  obtain⟨_,_,e,_⟩:=h.bf j (by omega) hj
  rw[e];rfl
theorem MinRows.frz {s:St}{b:Nat}{a:Auto}{cN cF:List AV}{v w:AV}(h:MinRows s b a cN cF v w)(d:Nat):Go.Am.frz U s (d+3) v=some (encS true ((minP a.fa (kapS a)).map fun x=>AV.fz (nats x.2)))∧Go.Am.frz U s (d+3) w=some (encS true ((minP a.fa (kapS a)).map fun x=>AV.fz (bools (frow a.fa x.1)))) :=
 ⟨h.v.frz_one U ag_40 sz_40 h.na.1 (d:=d+2) (mapO_idx h.ln fun j h1 h'=>(h.bn j h' h1).frz ag_3 sz_3 (noAgg_ints _) (frz_ints _ _ _)),h.w.frz_one U ag_43 sz_43 h.na.2 (d:=d+2) (mapO_idx h.lf fun j h1 h'=>(h.bf j h' h1).frz ag_4 sz_4 (noAgg_bools _) (frz_bools _ _ _))⟩
theorem l104b {a:Auto}(ha:a.ok){e:Env}{s:St}(g1:Env.get e 1=.ptr 8 0)(g2:Env.get e 2=.ptr 9 0)(g3:Env.get e 3=.fz (nats (setsA a)))(g4:Env.get e 4=.map 10)(g5:Env.get e 5=.sl 11 0 1 (some 1) 1)(g6:Env.get e 6=.ptr 12 0)(g7:Env.get e 7=.int .i64 (0:Nat))
  (gs:s.get 8=some (.cells [.int .i64 a.lines,encN a,encFs a] 69 false 0 0))(g9:s.get 9=some (.cells [.int .i64 0,.nils,.nils] 69 false 0 0))(gm:s.get 10=some (.map (entN [kapS a 0] 0) false))(gb:s.get 11=some (.cells (nats [0]) 3 false 0 0))(gout:s.get 12=some (.cells [.int .i64 a.lines,.nils,.nils] 69 false 0 0))(nx:13≤s.next)(fr:Fr s){β:Type}{fin:Fl→β}{ks:List K}{Post:β→Prop}
  (hk:∀e' s' v w b cN cF,Env.get e' 6=.ptr 12 0→Env.get e' 2=.ptr 9 0→s'.get 12=some (.cells [.int .i64 a.lines,v,w] 69 false 0 0)→s'.get 9=some (.cells [.int .i64 0,.nils,.nils] 69 false 0 0)→MinRows s' b a cN cF v w→Post (goN U fin ks e' s')) :
  Post (goL U fin (.bk 0::ks) r104_l1 e s):=by
 have hfew:=ha.few
 have hA:=ha.faok
 have hm16:=ha.m16
 have hmp:0<2^a.lines.toNat:=Nat.two_pow_pos _
 refine loop_ex (σ:=Nat) (fun i=>a.next.length-i) (fun i e s=>Env.get e 1=.ptr 8 0∧Env.get e 2=.ptr 9 0∧Env.get e 3=.fz (nats (setsA a))∧Env.get e 4=.map 10∧Env.get e 6=.ptr 12 0∧Env.get e 7=.int .i64 (i:Nat)∧s.get 8=some (.cells [.int .i64 a.lines,encN a,encFs a] 69 false 0 0)∧s.get 9=some (.cells [.int .i64 0,.nils,.nils] 69 false 0 0)∧13≤s.next∧Fr s ∧
   ∃(L:List Nat) (b:Nat) (cap:Option Nat) (acc:List (Nat×List Nat)) (cN cF:List AV) (v w:AV),Env.get e 5=.sl b 0 L.length cap 1∧(cap=none∨cap=some L.length)∧s.get b=some (.cells (nats L) 3 false 0 0)∧b<s.next∧(b=11∨13≤b)∧(∀z∈L,z<a.next.length)∧(L.map (kapS a)).Nodup∧s.get 10=some (.map (entN (L.map (kapS a)) 0) false) ∧
    s.get 12=some (.cells [.int .i64 a.lines,v,w] 69 false 0 0)∧RowI s 13 40 1 i cN v∧RowI s 13 43 1 i cF w∧acc.length=i∧cN.length=i∧cF.length=i ∧
    (∀j (h:j<acc.length) (h':j<cN.length),BlkJ s b 3 cN[j] (nats acc[j].2))∧(∀j (h:j<acc.length) (h':j<cF.length),BlkJ s b 4 cF[j] (bools (frow a.fa acc[j].1))) ∧
    i≤L.length∧acc++bfsN (kapS a) (rowF a.fa) (a.next.length+1-i) i L=minP a.fa (kapS a)) 0 ?_
  ⟨g1,g2,g3,g4,g6,g7,gs,g9,nx,fr,[0],11,some 1,[],[],[],.nils,.nils,g5,.inr rfl,gb,by omega,.inl rfl,fun z hz=>by rw[List.mem_singleton.1 hz];exact ha.pos,by simp,gm,gout,RowI.nil _ _ _ _,RowI.nil _ _ _ _,rfl,rfl,rfl,fun j h=>by simp at h,fun j h=>by simp at h,Nat.zero_le _,rfl⟩
 clear g1 g2 g3 g4 g5 g6 g7 gs g9 gb gm gout nx fr e s
 rintro Lp i e s ⟨g1,g2,g3,g4,g6,g7,gs,g9,nx,fr,L,b,cap,acc,cN,cF,v,w,g5,hcap,gb,nb,hb,hLn,hnd,gm,gout,hv,hw,hacc,hcN,hcF,hBN,hBF,hiL,hrun⟩ IH
 have hLlen:L.length≤a.next.length:=nodup_few hnd hLn
 by_cases hd:i<L.length
 ·have hwr:=wrap_succ hd (by omega)
  have hq:L[i]<a.next.length:=hLn _ (List.getElem_mem hd)
  have hLi:L[i]? = some L[i]:=List.getElem?_eq_getElem hd
  have o1:=nats_get (l:=L) (i:=i) hd
  rw[gt_get hd] at o1
  rw[show a.next.length+1-i=(a.next.length+1-(i+1))+1 by omega,bfsN,hLi] at hrun
  simp only at hrun
  have hrow:=ixa_rowI (nl:=a.nNl) hq
  have hlen:=(ha.row _ hq).1
  have hl:=lenL_encS a.next[L[i]].1 (ints a.next[L[i]].2)
  rw[ints_len,hlen] at hl
  generalize hqe:L[i]=q at *
  have gs':=gs
  unfold encN encFs at gs'
  simp (maxSteps:=2000000) +contextual only[go_sem,↓reduceIte,r104_l1,g1,g5,g7,gs',gb,o1,nat_lt_dec,hd,hrow,hl,Nat.mul_one]
  refine l104a (Post:=Post) ha (L:=L) (q:=q) (b:=b) (m:=10) (cap:=cap) hq hcap hLn hnd (by omega) ?_ ?_ ?_ ?_ ?_ ?_ ?_ gm gb (by rw[upto_next];omega) (by rw[upto_next];omega) (fr.upto (by omega)) ?_
  case refine_8 =>
   intro e2 s2 b2 cap2 rv h2a p5 hcap2 hb2 nb2 qb2 qm2 p8 hR hRf hs2 hnx2 fr2
   simp only[upto_next,upto_get] at hb2 hR hs2 hnx2
   obtain⟨nd2,hle2,hpre,hkl,_⟩:=numRow_nd (κ:=kapS a) (rowF a.fa q) L hnd
   have hkl:(numRow (kapS a) (rowF a.fa q) L).2.length=2^a.lines.toNat:=by rw[hkl];exact rowF_len a.fa q
   have lt2:∀z∈(numRow (kapS a) (rowF a.fa q) L).1,z<a.next.length:=by
    have:=(numRow_rel (κ:=kapS a) (ρ:=kapS a) (Q:=fun z=>z<a.next.length) (fun _ _ _ _=>Iff.rfl) (rowF a.fa q) L (fun y hy=>by
     obtain⟨x,hx,rfl⟩:=List.mem_map.1 hy
     exact hA.lt q x hq (List.mem_range.1 hx)) hLn).2
    exact this
   have hLf:=hpre i hd
   rw[hLi] at hLf
   generalize hLfe:(numRow (kapS a) (rowF a.fa q) L).1=Lf at *
   generalize hkfe:(numRow (kapS a) (rowF a.fa q) L).2=kf at *
   have hiLf:i<Lf.length:=by omega
   have hgt:gt Lf i=q:=by
    rw[List.getElem?_eq_getElem hiLf] at hLf
    rw[gt_get hiLf];exact Option.some.inj hLf
   obtain⟨jr,rfl,hjr,jr1,jr2⟩:∃jr,rv=.sl jr 0 (2^a.lines.toNat) none 1∧s2.get jr=some (.cells (nats kf) 3 false 0 0)∧s.next+10≤jr∧jr<s2.next:=by
    rcases hR with⟨_,h⟩|⟨j,h1,h2,h3,h4⟩
    ·rw[h,List.length_nil] at hkl;omega
    ·exact⟨j,by rw[h1,hkl],h2,h3,h4⟩
   have hjb:=hRf jr ((isB_sl _ _ _).2 rfl)
   have E2:∀t:Nat,t<10→t≠5→t≠8→Env.get e2 t=Env.get e t:=fun t h1 h5 h8=>by
    rw[h2a t h1 h5 h8]
    have hne:∀k:Nat,10≤k→(k=t)=False:=fun k hk=>by simp;omega
    have hne8:(8=t)=False:=by simp;omega
    simp +contextual only[go_sem,↓reduceIte,hne,hne8]
   have p1:=(E2 1 (by omega) (by omega) (by omega)).trans g1
   have p2:=(E2 2 (by omega) (by omega) (by omega)).trans g2
   have p3:=(E2 3 (by omega) (by omega) (by omega)).trans g3
   have p4:=(E2 4 (by omega) (by omega) (by omega)).trans g4
   have p6:=(E2 6 (by omega) (by omega) (by omega)).trans g6
   have p7:=(E2 7 (by omega) (by omega) (by omega)).trans g7
   have u8:=(hs2 8 (by omega) (by omega) (by omega)).trans gs
   have u9:=(hs2 9 (by omega) (by omega) (by omega)).trans g9
   have u12:=(hs2 12 (by omega) (by omega) (by omega)).trans gout
   have hv2:RowI s2 13 40 1 i cN v:=hv.keepT (by omega) fun j c h1 h2 h3=>by rw[hs2 j (by omega) (blk_ne h1 gb (by decide)) (by omega)];exact h1
   have hw2:RowI s2 13 43 1 i cF w:=hw.keepT (by omega) fun j c h1 h2 h3=>by rw[hs2 j (by omega) (blk_ne h1 gb (by decide)) (by omega)];exact h1
   have hBN2:∀j (h:j<acc.length) (h':j<cN.length),BlkJ s2 b2 3 cN[j] (nats acc[j].2):=fun j h h'=>(hBN j h h').mono (by omega) fun k h1 h2 h3 h4=>⟨by omega,by rw[hs2 k (by omega) h2 (by omega)];exact h4⟩
   have hBF2:∀j (h:j<acc.length) (h':j<cF.length),BlkJ s2 b2 4 cF[j] (bools (frow a.fa acc[j].1)):=fun j h h'=>(hBF j h h').mono (by omega) fun k h1 h2 h3 h4=>⟨by omega,by rw[hs2 k (by omega) h2 (by omega)];exact h4⟩
   simp (maxSteps:=2000000) +contextual only[go_sem,↓reduceIte]
   refine l104r (Post:=Post) ha (L:=Lf) (q:=q) (b:=b2) (i:=i) (ob:=12) (jr:=jr) (cap:=cap2) hq hiLf hgt (by omega) p1 p5 p6 p7 p8 u8 u12 qb2 (by omega) (by omega) nb2 (by omega) (by omega) hv2 hw2 fr2 ?_
   intro e3 s3 v' w' jc h3a u12' hv3 hw3 hjc jc1 jc2 fs3 hnx3 fr3
   have qE:∀t:Nat,t<10→Env.get e3 t=Env.get e2 t:=h3a
   have o7:=(h3a 7 (by omega)).trans p7
   simp (maxSteps:=2000000) +contextual only[go_sem,↓reduceIte,o7,hwr]
   have nv:∀j c t,s2.get j=some (.cells c t false 0 0)→t≠40→¬isB v j:=fun j c t h1 h2 h3=>h2 (by
    have:=hv2.isB_t h3
    by_cases e:t=40
    ·exact e
    ·exact absurd rfl (blk_ne h1 this.2.2 e))
   have nw:∀j c t,s2.get j=some (.cells c t false 0 0)→t≠43→¬isB w j:=fun j c t h1 h2 h3=>h2 (by
    have:=hw2.isB_t h3
    by_cases e:t=43
    ·exact e
    ·exact absurd rfl (blk_ne h1 this.2.2 e))
   have pr:∀j c t,j<s2.next→j≠12→s2.get j=some (.cells c t false 0 0)→t≠40→t≠43→s3.get j=some (.cells c t false 0 0):=fun j c t h1 h2 h3 h4 h5=>by
    rw[fs3 j h1 h2 (nv j c t h3 h4) (nw j c t h3 h5)];exact h3
   have lo10:s3.get 10=s2.get 10:=fs3 10 (by omega) (by omega) (fun h=>by have:=(hv2.isB_t h).1;omega) fun h=>by have:=(hw2.isB_t h).1;omega
   have bj3:∀c l,BlkJ s2 b2 3 c l→BlkJ s3 b2 3 c l:=fun c l h=>h.mono hnx3 fun k h1 h2 h3 h4=>⟨h2,pr k _ _ h1 (by omega) h4 (by decide) (by decide)⟩
   have bj4:∀c l,BlkJ s2 b2 4 c l→BlkJ s3 b2 4 c l:=fun c l h=>h.mono hnx3 fun k h1 h2 h3 h4=>⟨h2,pr k _ _ h1 (by omega) h4 (by decide) (by decide)⟩
   have hfl:(frow a.fa q).length=2^a.lines.toNat:=frow_len a.fa q
   rw[List.append_cons] at hrun
   refine IH (i+1) _ _ (by omega) ⟨?_,?_,?_,?_,?_,?_,pr _ _ _ (by omega) (by omega) u8 (by decide) (by decide),pr _ _ _ (by omega) (by omega) u9 (by decide) (by decide),by omega,fr3,Lf,b2,cap2,acc++[(q,kf)],cN++[.sl jr 0 (2^a.lines.toNat) none 1],cF++[.sl jc 0 (2^a.lines.toNat) none 1],v',w',?_,hcap2,pr _ _ _ nb2 (by omega) qb2 (by decide) (by decide),by omega,by omega,lt2,nd2,lo10.trans qm2,u12',hv3,hw3,by simp[hacc],by simp[hcN],by simp[hcF],fun j h h'=>?_,fun j h h'=>?_,by omega,hrun⟩
   case refine_8 =>
    by_cases hj:j<acc.length
    ·rw[List.getElem_append_left (by omega),List.getElem_append_left hj]
     exact bj3 _ _ (hBN2 j hj (by omega))
    ·have hj:j=acc.length:=by rw[List.length_append,List.length_singleton] at h;omega
     subst hj
     rw[List.getElem_append_right (by omega),List.getElem_append_right (by omega)]
     simp only[List.getElem_singleton]
     exact bj3 _ _ ⟨jr,none,by rw[nats_len,hkl],jr2,hjb,by omega,hjr⟩
   case refine_9 =>
    by_cases hj:j<acc.length
    ·rw[List.getElem_append_left (by omega),List.getElem_append_left hj]
     exact bj4 _ _ (hBF2 j hj (by omega))
    ·have hj:j=acc.length:=by rw[List.length_append,List.length_singleton] at h;omega
     subst hj
     rw[List.getElem_append_right (by omega),List.getElem_append_right (by omega)]
     simp only[List.getElem_singleton]
     exact⟨jc,none,by rw[bools_len,hfl],jc2,by omega,by omega,hjc⟩
   all_goals simp +contextual only[go_sem,↓reduceIte,(h3a 1 (by omega)).trans p1,(h3a 2 (by omega)).trans p2,(h3a 3 (by omega)).trans p3,(h3a 4 (by omega)).trans p4,(h3a 5 (by omega)).trans p5,(h3a 6 (by omega)).trans p6]
  all_goals simp +contextual only[go_sem,↓reduceIte,g3,g4,g5]
  all_goals rfl
 ·have hie:i=L.length:=by omega
  have hno:bfsN (kapS a) (rowF a.fa) (a.next.length+1-i) i L=[]:=by
   rw[show a.next.length+1-i=(a.next.length-i)+1 by omega,bfsN,List.getElem?_eq_none (by omega)]
  rw[hno,List.append_nil] at hrun
  have hle:decide ((i:Int)<(L.length:Int))=false:=by rw[nat_lt_dec];simp;omega
  simp (maxSteps:=2000000) +contextual only[go_sem,↓reduceIte,r104_l1,g5,g7,hle]
  have hv':RowI s 13 40 1 cN.length cN v:=by rw[hcN];exact hv
  have hw':RowI s 13 43 1 cF.length cF w:=by rw[hcF];exact hw
  refine hk _ _ v w b cN cF ?_ ?_ gout g9 ⟨hv',hw',by rw[←hrun];omega,by rw[←hrun];omega,?_,?_,by omega⟩
  ·simp +contextual only[go_sem,↓reduceIte,g6]
  ·simp +contextual only[go_sem,↓reduceIte,g2]
  ·rw[←hrun];exact hBN
  ·rw[←hrun];exact hBF
theorem minP_R {a:Auto}(ha:a.ok):(minP a.fa (kapS a)).map (fun x=>AV.fz (nats x.2))=(minR a.fa).map (fun x=>AV.fz (nats x.2))∧(minP a.fa (kapS a)).map (fun x=>AV.fz (bools (frow a.fa x.1)))=(minR a.fa).map (fun x=>AV.fz (bools (frow a.fa x.1))):=by
 obtain⟨h1,h2⟩:=min_eq ha.faok (cl:=kapS a) fun u v hu hv=>setsA_eq ha hu hv
 rw[h1]
 simp only[List.map_map]
 refine⟨rfl,List.map_congr_left fun x hx=>?_⟩
 show _=AV.fz (bools (frow a.fa (clsR a.fa x.1)))
 congr 2
 unfold frow
 refine List.map_congr_left fun y hy=>?_
 exact (min_fr ha.faok (h2 x hx) (List.mem_range.1 hy)).symm
theorem c104 {a:Auto}(ha:a.ok):calV U 104 [encA a]=some (encA (minAutR a)):=by
 refine pure_go k104 (by kernel_rfl) (by simp[stills,still_encA]) ?_
 have h172:=c172 ha
 rw[encA_eq] at h172 ⊢
 have nn:=noAgg_encS a.nNl (a.next.map encRow)
 have nf:=noAgg_encS a.fNl (a.fires.map encFRow)
 have cn:=cells_encS a.nNl (a.next.map encRow)
 have cf:=cells_encS a.fNl (a.fires.map encFRow)
 have hA:=ha.faok
 have o1:=ixa_natsF (l:=setsA a) (i:=0) (by rw[setsA_len ha];exact ha.pos)
 have o1:ixRA 1 (.fz (nats (setsA a))) (.int .i64 0)=some (.fp [.int .i64 ((kapS a 0:Nat):Int)] 0):=o1
 have up:=fun (S:St) (h:S.get 10=some (.map [] false))=>update249 (m:=10) (ks:=[]) h (k:=kapS a 0) (by simp)
 have up:∀S:St,S.get 10=some (.map [] false)→updateA U 249 (.map 10) (.int .i64 ((kapS a 0:Nat):Int)) (.int .i64 0) S=some (S.put 10 (.map (entN [kapS a 0] 0) false)):=up
 unfold encN encFs at h172 ⊢
 simp (maxSteps:=2000000) +contextual only[go_sem,↓reduceIte,r104,nn,nf,cn,cf,h172,o1,up]
 refine l104b (Post:=fun (o:Option AV)=>o=some (encA (minAutR a))) ha ?_ ?_ ?_ ?_ ?_ ?_ ?_ ?_ ?_ ?_ ?_ ?_ ?_ ?_ ?_
 case refine_15 =>
  intro e' s' v w b cN cF p6 p2 u12 u9 MR
  have nav:=MR.v.noAgg
  have naw:=MR.w.noAgg
  have hE:encA (minAutR a)=.agg [.int .i64 a.lines,encS true ((minR a.fa).map fun x=>AV.fz (nats x.2)),encS true ((minR a.fa).map fun x=>AV.fz (bools (frow a.fa x.1)))]:=by
   rw[encA_eq,encN,encFs,minAutR]
   simp only[List.map_map]
   have e1:∀x:Nat×List Nat,(encRow∘fun x:Nat×List Nat=>(false,nIs x.2)) x=AV.fz (nats x.2):=fun x=>by simp only[Function.comp,encRow,encS_fz];rfl
   have e2:∀x:Nat×List Nat,(encFRow∘fun x:Nat×List Nat=>(false,frow a.fa x.1)) x=AV.fz (bools (frow a.fa x.1)):=fun x=>by simp only[Function.comp,encFRow,encS_fz]
   rw[List.map_congr_left (fun x _=>e1 x),List.map_congr_left (fun x _=>e2 x)]
  obtain⟨m1,m2⟩:=minP_R ha
  have MK:=fun x=>MR.keep (S:=s'.put 9 x) (by rw[next_put]) fun j hj=>by rw[get_put,if_neg (fun e=>hj e.symm)]
  have fv':=fun x=>((MK x).frz 36).1
  have fw':=fun x=>((MK x).frz 36).2
  rw[m1] at fv'
  rw[m2] at fw'
  rw[hE]
  simp (maxSteps:=2000000) +contextual only[go_sem,↓reduceIte,p6,p2,u12,u9,nav,naw,fv',fw']
 case refine_14 =>
  repeat first|exact Fr.own|apply Fr.new|apply Fr.put|apply Fr.upto
  all_goals simp +contextual only[go_sem,↓reduceIte]
 all_goals simp +contextual only[go_sem,↓reduceIte]
 all_goals rfl
theorem numRow_len (κ:Nat→Nat):∀(cs st:List Nat),(numRow κ cs st).2.length=cs.length
 |[],st=>rfl
 |c::cs,st=>by
  rw[numRow]
  cases decide (idxN (st.map κ) (κ c)<st.length) <;> simp[numRow_len κ cs]
theorem bfsN_len (κ:Nat→Nat)(row:Nat→List Nat){m:Nat}(hr:∀s,(row s).length=m):∀(f i:Nat) (st:List Nat),(bfsN κ row f i st).length≤f∧∀x∈bfsN κ row f i st,x.2.length=m
 |0,i,st=>by simp[bfsN]
 |f+1,i,st=>by
  rw[bfsN]
  cases st[i]? with
  |none=>simp
  |some s =>
   obtain⟨h1,h2⟩:=bfsN_len κ row hr f (i+1) (numRow κ (row s) st).1
   refine⟨by simp only[List.length_cons];omega,fun x hx=>?_⟩
   rcases List.mem_cons.1 hx with rfl|hx
   ·simp only[numRow_len,hr]
   ·exact h2 x hx
theorem minR_len (A:Fa):(minR A).length≤A.n+1∧∀x∈minR A,x.2.length=A.m :=
 bfsN_len id (fun c=>(rowF A c).map (clsR A)) (m:=A.m) (fun s=>by rw[List.length_map,rowF_len]) (A.n+1) 0 [clsR A 0]
theorem c60_min {a:Auto}(ha:a.ok):calV U 60 [encA (minAutR a),encA (minAutR a)]=some (.bool true):=by
 obtain⟨h1,h2⟩:=minR_len a.fa
 have hfew:=ha.few
 have hm16:=ha.m16
 have hn:a.fa.n=a.next.length:=rfl
 have hm:a.fa.m=2^a.lines.toNat:=rfl
 refine c60 _ _ rfl rfl (fun i _ _=>rfl) rfl (fun i _ _=>rfl) ?_ ?_ ?_ ?_
 ·simp only[minAutR,List.length_map];omega
 ·simp only[minAutR,List.length_map];omega
 ·intro r hr
  simp only[minAutR,List.mem_map] at hr
  obtain⟨x,hx,rfl⟩:=hr
  simp only[nIs_len,h2 x hx];omega
 ·intro r hr
  simp only[minAutR,List.mem_map] at hr
  obtain⟨x,hx,rfl⟩:=hr
  simp only[frow_len];omega
def minP2 (a:Auto):AV:=bif ckA a != 0 then .tup [encA ⟨0,true,[],true,[]⟩,.int .i64 (ckA a)] else .tup [encA (minAutR a),.int .i64 0]
theorem c59 (a:Auto)(hn:a.next.length≤2^40)(hr:∀r∈a.next,r.2.length≤2^40):calV U 59 [encA a]=some (minP2 a):=by
 refine pure_go k59 (by kernel_rfl) (by simp[stills,still_encA]) ?_
 have h58:=c58 a hn hr
 have nn:=noAgg_encS a.nNl (a.next.map encRow)
 have nf:=noAgg_encS a.fNl (a.fires.map encFRow)
 have cn:=cells_encS a.nNl (a.next.map encRow)
 have cf:=cells_encS a.fNl (a.fires.map encFRow)
 unfold minP2
 cases hc:ckA a != 0 with
 |true =>
  rw[encA_eq] at h58 ⊢
  unfold encN encFs at h58 ⊢
  rw[show encA ⟨0,true,[],true,[]⟩=.agg [.int .i64 0,.nils,.nils] from rfl]
  simp (maxSteps:=2000000) +contextual only[go_sem,↓reduceIte,r59,nn,nf,cn,cf,h58,hc,cond_true]
 |false =>
  have h0:ckA a=0:=by simpa using hc
  have ha:=Auto.ok_of h0
  have h104:=c104 ha
  rw[h0] at h58
  generalize hM:minAutR a=M at *
  have nn':=noAgg_encS M.nNl (M.next.map encRow)
  have nf':=noAgg_encS M.fNl (M.fires.map encFRow)
  have cn':=cells_encS M.nNl (M.next.map encRow)
  have cf':=cells_encS M.fNl (M.fires.map encFRow)
  rw[encA_eq a] at h58 h104 ⊢
  rw[encA_eq M] at h104 ⊢
  unfold encN encFs at h58 h104 ⊢
  simp (maxSteps:=2000000) +contextual only[go_sem,↓reduceIte,r59,nn,nf,cn,cf,nn',nf',cn',cf',h58,h104,cond_false,frz_encS]
end Go.Am
namespace Go.Am
open Go
def prodF (A B:Fa):Fa where
 n:=A.n*B.n
 m:=A.m
 nx c x:=A.nx (c / B.n) x*B.n+B.nx (c%B.n) x
 fr c x:=A.fr (c / B.n) x
theorem pair_lt {a b n k:Nat}(ha:a<n)(hb:b<k):a*k+b<n*k:=by
 have:(a+1)*k≤n*k:=Nat.mul_le_mul_right k ha
 rw[Nat.succ_mul] at this
 omega
theorem pair_div {a b k:Nat}(hb:b<k):(a*k+b) / k=a:=by
 rw[Nat.mul_comm,Nat.mul_add_div (by omega),Nat.div_eq_of_lt hb,Nat.add_zero]
theorem pair_mod {a b k:Nat}(hb:b<k):(a*k+b)%k=b:=by
 rw[Nat.mul_comm,Nat.mul_add_mod,Nat.mod_eq_of_lt hb]
theorem prodF_ok {A B:Fa}(hA:A.ok)(hB:B.ok)(hm:A.m=B.m):(prodF A B).ok:=by
 refine⟨Nat.mul_pos hA.pos hB.pos,fun c x hc hx=>?_⟩
 have hc:c<A.n*B.n:=hc
 have hx:x<A.m:=hx
 have h1:c / B.n<A.n:=Nat.div_lt_of_lt_mul (by rw[Nat.mul_comm];exact hc)
 have h2:c%B.n<B.n:=Nat.mod_lt _ hB.pos
 exact pair_lt (hA.lt _ _ h1 hx) (hB.lt _ _ h2 (by omega))
abbrev Trip:=Nat×Nat×Nat
def visRow (nx:Nat→Nat)(y:Nat→Bool)(i:Nat):Nat→Nat→List Trip→List Trip×Option Nat
 |0,_,T=>(T,none)
 |r+1,x,T=>bif y x then visRow nx y i r (x+1) (bif decide (nx x∈T.map (·.1)) then T else T++[(nx x,i,x)]) else (T,some x)
def visT (A:Fa)(y:Nat→Nat→Bool):Nat→Nat→List Trip→List Trip×Option (Nat×Nat)
 |0,_,T=>(T,none)
 |f+1,i,T=>match T[i]? with
  |none=>(T,none)
  |some t=>match visRow (A.nx t.1) (y t.1) i A.m 0 T with
   |(T',some x)=>(T',some (i,x))
   |(T',none)=>visT A y f (i+1) T'
def sigT (T:List Trip):Nat→Nat→List Nat
 |0,_=>[]
 |f+1,k=>match k with
  |0=>[]
  |k+1=>match T[k+1]? with
   |none=>[]
   |some t=>sigT T f t.2.1++[t.2.2]
structure VisI (A:Fa)(T:List Trip):Prop where
 pos:0<T.length
 nd:(T.map (·.1)).Nodup
 lt:∀t∈T,t.1<A.n
 fr:∀k t,T[k+1]? = some t→t.2.1≤k∧t.2.2<A.m
theorem VisI.len {A:Fa}{T:List Trip}(h:VisI A T):T.length≤A.n:=by
 have:=nodup_few (κ:=id) (st:=T.map (·.1)) (by rw[List.map_id];exact h.nd) (n:=A.n) fun a ha=>by
  obtain⟨t,ht,rfl⟩:=List.mem_map.1 ha
  exact h.lt t ht
 rwa [List.length_map] at this
theorem VisI.put {A:Fa}{T:List Trip}(h:VisI A T){c i x:Nat}(hc:c<A.n)(hi:i<T.length)(hx:x<A.m)(hn:c∉T.map (·.1)):VisI A (T++[(c,i,x)]):=by
 refine⟨by simp,?_,fun t ht=>?_,fun k t ht=>?_⟩
 ·rw[List.map_append,List.nodup_append]
  refine⟨h.nd,by simp,fun a ha b hb=>?_⟩
  simp only[List.map_cons,List.map_nil,List.mem_singleton] at hb
  rintro rfl
  rw[hb] at ha
  exact hn ha
 ·rcases List.mem_append.1 ht with h1|h1
  ·exact h.lt t h1
  ·rw[List.mem_singleton.1 h1];exact hc
 ·by_cases hk:k+1<T.length
  ·rw[List.getElem?_append_left hk] at ht
   exact h.fr k t ht
  ·have hk2:k+1=T.length:=by
    have:=(List.getElem?_eq_some_iff.1 ht).1
    simp at this;omega
   rw[hk2,List.getElem?_append_right (Nat.le_refl _),Nat.sub_self] at ht
   simp at ht
   subst ht
   exact⟨by simp only;omega,hx⟩
structure RowS (A:Fa)(T T':List Trip):Prop where
 inv:VisI A T'
 pre:∃R,T'=T++R
theorem visRow_spec {A:Fa}(hA:A.ok){s i:Nat}(hs:s<A.n)(y:Nat→Bool):∀(r x:Nat) {T:List Trip},x+r≤A.m→VisI A T→i<T.length→RowS A T (visRow (A.nx s) y i r x T).1 ∧
  ((visRow (A.nx s) y i r x T).2=none→∀z,x≤z→z<x+r→y z=true∧A.nx s z∈(visRow (A.nx s) y i r x T).1.map (·.1)) ∧
  (∀z,(visRow (A.nx s) y i r x T).2=some z→x≤z∧z<x+r∧y z=false∧∀w,x≤w→w<z→y w=true)
 |0,x,T,_,h,_=>⟨⟨h,[],by simp[visRow]⟩,fun _ z h1 h2=>by omega,fun z hz=>by simp[visRow] at hz⟩
 |r+1,x,T,hx,h,hi=>by
  rw[visRow]
  cases hy:y x with
  |false =>
   refine⟨⟨h,[],by simp⟩,fun e=>by simp at e,fun z hz=>?_⟩
   simp at hz
   subst hz
   exact⟨Nat.le_refl _,by omega,hy,fun w h1 h2=>by omega⟩
  |true =>
   rw[cond_true]
   have hlt:=hA.lt s x hs (by omega)
   have h1:VisI A (bif decide (A.nx s x∈T.map (·.1)) then T else T++[(A.nx s x,i,x)])∧(∃R,(bif decide (A.nx s x∈T.map (·.1)) then T else T++[(A.nx s x,i,x)])=T++R)∧A.nx s x∈(bif decide (A.nx s x∈T.map (·.1)) then T else T++[(A.nx s x,i,x)]).map (·.1):=by
    by_cases hm:A.nx s x∈T.map (·.1)
    ·rw[decide_eq_true hm,cond_true]
     exact⟨h,⟨[],by simp⟩,hm⟩
    ·rw[decide_eq_false hm,cond_false]
     exact⟨h.put hlt hi (by omega) hm,⟨_,rfl⟩,by simp⟩
   generalize (bif decide (A.nx s x∈T.map (·.1)) then T else T++[(A.nx s x,i,x)])=T1 at *
   obtain⟨h1,⟨R,hR⟩,hm⟩:=h1
   obtain⟨⟨i1,R',hR'⟩,i2,i3⟩:=visRow_spec (i:=i) hA hs y r (x+1) (T:=T1) (by omega) h1 (by rw[hR];simp;omega)
   refine⟨⟨i1,R++R',by rw[hR',hR,List.append_assoc]⟩,fun e z q1 q2=>?_,fun z hz=>?_⟩
   ·by_cases hzx:z=x
    ·subst hzx
     refine⟨hy,?_⟩
     rw[hR',List.map_append]
     exact List.mem_append_left _ hm
    ·exact i2 e z (by omega) (by omega)
   ·obtain⟨a1,a2,a3,a4⟩:=i3 z hz
    refine⟨by omega,by omega,a3,fun w w1 w2=>?_⟩
    by_cases hwx:w=x
    ·subst hwx;exact hy
    ·exact a4 w (by omega) w2
structure VisE (A:Fa)(y:Nat→Nat→Bool)(i:Nat)(T:List Trip)(r:List Trip×Option (Nat×Nat)):Prop where
 inv:VisI A r.1
 pre:∃R,r.1=T++R
 go:r.2=none→∀k t,i≤k→r.1[k]? = some t→∀x,x<A.m→y t.1 x=true∧A.nx t.1 x∈r.1.map (·.1)
 stop:∀k x,r.2=some (k,x)→i≤k∧x<A.m∧(∃t,r.1[k]? = some t∧y t.1 x=false)∧(∀j t,i≤j→j<k→r.1[j]? = some t→∀z,z<A.m→y t.1 z=true)∧∀t,r.1[k]? = some t→∀z,z<x→y t.1 z=true
theorem visT_spec {A:Fa}(hA:A.ok)(y:Nat→Nat→Bool):∀(f i:Nat) {T:List Trip},VisI A T→i≤T.length→A.n+1≤f+i→VisE A y i T (visT A y f i T)
 |0,i,T,h,hi,hf=>by
  have:=h.len
  omega
 |f+1,i,T,h,hi,hf=>by
  rw[visT]
  cases ht:T[i]? with
  |none =>
   refine⟨h,⟨[],by simp⟩,fun _ k t hk hkt=>?_,fun k x e=>by simp at e⟩
   rw[List.getElem?_eq_none_iff] at ht
   have:=(List.getElem?_eq_some_iff.1 hkt).1
   simp only at this
   omega
  |some t =>
   have hil:=(List.getElem?_eq_some_iff.1 ht).1
   have htm:=List.mem_of_getElem? ht
   obtain⟨⟨i1,R,hR⟩,i2,i3⟩:=visRow_spec hA (h.lt t htm) (y t.1) A.m 0 (T:=T) (i:=i) (by omega) h hil
   simp only
   generalize hv:visRow (A.nx t.1) (y t.1) i A.m 0 T=v at *
   obtain⟨T1,o⟩:=v
   simp only at i1 hR i2 i3
   have hTi:T1[i]? = some t:=by rw[hR,List.getElem?_append_left hil];exact ht
   cases o with
   |some x =>
    obtain⟨a1,a2,a3,a4⟩:=i3 x rfl
    refine⟨i1,⟨R,hR⟩,fun e=>by simp at e,fun k z e=>?_⟩
    simp only[Option.some.injEq,Prod.mk.injEq] at e
    obtain⟨rfl,rfl⟩:=e
    refine⟨Nat.le_refl _,by omega,⟨t,hTi,a3⟩,fun j u q1 q2=>by omega,fun u hu z hz=>?_⟩
    rw[hTi] at hu
    cases hu
    exact a4 z (Nat.zero_le _) hz
   |none =>
    show VisE A y i T (visT A y f (i+1) T1)
    have hall:=i2 rfl
    have ih:=visT_spec hA y f (i+1) (T:=T1) i1 (by rw[hR];simp;omega) (by omega)
    obtain⟨j1,⟨R',hR'⟩,j3,j4⟩:=ih
    generalize visT A y f (i+1) T1=r at *
    have hri:r.1[i]? = some t:=by rw[hR',List.getElem?_append_left (by rw[hR];simp;omega)];exact hTi
    refine⟨j1,⟨R++R',by rw[hR',hR,List.append_assoc]⟩,fun e k u hk hu x hx=>?_,fun k x e=>?_⟩
    ·by_cases hki:k=i
     ·subst hki
      rw[hri] at hu
      cases hu
      obtain⟨b1,b2⟩:=hall x (Nat.zero_le _) (by omega)
      refine⟨b1,?_⟩
      rw[hR',List.map_append]
      exact List.mem_append_left _ b2
     ·exact j3 e k u (by omega) hu x hx
    ·obtain⟨b1,b2,b3,b4,b5⟩:=j4 k x e
     refine⟨by omega,b2,b3,fun j u q1 q2 hu z hz=>?_,b5⟩
     by_cases hji:j=i
     ·subst hji
      rw[hri] at hu
      cases hu
      exact (hall z (Nat.zero_le _) (by omega)).1
     ·exact b4 j u (by omega) q2 hu z hz
theorem visI0 {A:Fa}(hA:A.ok):VisI A [(0,0,0)]:=⟨by simp,by simp,fun t ht=>by rw[List.mem_singleton.1 ht];exact hA.pos,fun k t ht=>by simp at ht⟩
def visAll (A:Fa)(y:Nat→Nat→Bool):List Trip×Option (Nat×Nat):=visT A y (A.n+1) 0 [(0,0,0)]
theorem visAll_spec {A:Fa}(hA:A.ok)(y:Nat→Nat→Bool):VisE A y 0 [(0,0,0)] (visAll A y):=visT_spec hA y _ _ (visI0 hA) (by simp) (by omega)
def endS (r:List Trip×Option (Nat×Nat)):List Nat:=match r.2 with
 |none=>[]
 |some (i,x)=>sigT r.1 i i++[x]
theorem sigT_fuel {A:Fa}{T:List Trip}(h:VisI A T):∀(f k:Nat),k≤f→k<T.length→sigT T f k=sigT T k k
 |0,k,hf,hk=>by
  have:k=0:=by omega
  subst this;rfl
 |f+1,0,_,_=>rfl
 |f+1,k+1,hf,hk=>by
  rw[sigT,sigT]
  cases ht:T[k+1]? with
  |none=>rfl
  |some t =>
   have:=(h.fr k t ht).1
   simp only
   rw[sigT_fuel h f t.2.1 (by omega) (by omega),←sigT_fuel h k t.2.1 (by omega) (by omega)]
end Go.Am
namespace Go.Am
open Go
variable [MaxLen]
set_option maxRecDepth 100000
set_option maxHeartbeats 8000000
theorem c112 (p q:Bool):calV U 112 [.bool p,.bool q]=some (.bool (p||q)):=by
 refine pure_go k112 (by kernel_rfl) rfl ?_
 cases p <;> cases q <;> simp (maxSteps:=2000000) +contextual only[go_sem,↓reduceIte,r112] <;> rfl
theorem c113 (p q:Bool):calV U 113 [.bool p,.bool q]=some (.bool (p&&q)):=by
 refine pure_go k113 (by kernel_rfl) rfl ?_
 cases p <;> cases q <;> simp (maxSteps:=2000000) +contextual only[go_sem,↓reduceIte,r113] <;> rfl
theorem c37 (p:Bool)(n:Int):calV U 37 [.bool p,.int .i64 n]=some (.int .i64 (br p n 0)):=by
 refine pure_go k37 (by kernel_rfl) rfl ?_
 cases p <;> simp (maxSteps:=2000000) +contextual only[go_sem,↓reduceIte,r37] <;> rfl
def chkTwo (a b:Auto):Int:=firstOf [ckA a,ckA b,br (a.lines != b.lines) 2 0]
theorem c136 (a b:Auto)(ha:a.next.length≤2^40)(hra:∀r∈a.next,r.2.length≤2^40)(hb:b.next.length≤2^40)(hrb:∀r∈b.next,r.2.length≤2^40):calV U 136 [encA a,encA b]=some (.int .i64 (chkTwo a b)):=by
 refine pure_go k136 (by kernel_rfl) (by simp[stills,still_encA]) ?_
 have h1:=c58 a ha hra
 have h2:=c58 b hb hrb
 rw[encA_eq,encA_eq b] at *
 unfold encN encFs at *
 have nn:=noAgg_encS a.nNl (a.next.map encRow)
 have nf:=noAgg_encS a.fNl (a.fires.map encFRow)
 have cn:=cells_encS a.nNl (a.next.map encRow)
 have cf:=cells_encS a.fNl (a.fires.map encFRow)
 have nn':=noAgg_encS b.nNl (b.next.map encRow)
 have nf':=noAgg_encS b.fNl (b.fires.map encFRow)
 have cn':=cells_encS b.nNl (b.next.map encRow)
 have cf':=cells_encS b.fNl (b.fires.map encFRow)
 simp (maxSteps:=2000000) +contextual only[go_sem,↓reduceIte,r136,nn,nf,cn,cf,nn',nf',cn',cf',h1,h2,c116]
 have hst:stills [AV.sl 20 0 3 (some 3) 1]=false:=rfl
 simp (maxSteps:=2000000) +contextual only[go_sem,↓reduceIte,z89 hst,frz_sl,frzS_cells,grab_head,grab_zero,Option.map_some,cz89_3,frzT_one,chunks_all]
 rfl
theorem g25 (l:List Int)(hlen:l.length<2^62):go U (finP U [.tmp 2]) [] r25 (bindArgs 0 [.fz (ints l)] .nil) (ownSt U)=some (.int .i64 (firstOf l)):=by
 have hl:=ints_len l
 have hll:lenRL (.fz (ints l))=some (.int .i64 l.length):=by have:=lenL_encS false (ints l);rw[encS_fz,ints_len] at this;exact this
 simp (maxSteps:=2000000) +contextual only[go_sem,↓reduceIte,r25]
 refine loop_to (σ:=Nat) (fun i=>l.length-i) (fun i=>some (AV.int .i64 (firstOf (l.drop i)))) (fun i e s=>i≤l.length∧Env.get e 0=.fz (ints l)∧Env.get e 3=.int .i64 (i:Nat)) 0 ?_ rfl ⟨Nat.zero_le _,?_,?_⟩
 ·rintro L i e s ⟨hi,g0,g3⟩ IH
  by_cases hd:i<l.length
  ·have hw:=wrap_succ hd (by omega)
   have hx:=ixa_intV (nl:=false) hd
   rw[encS_fz] at hx
   rw[List.drop_eq_getElem_cons hd,firstOf]
   cases hz:l[i] != 0 with
   |true =>
    simp (maxSteps:=2000000) +contextual only[go_sem,↓reduceIte,r25_l0,g0,g3,hll,nat_lt_dec,hd,hx,hz]
   |false =>
    simp (maxSteps:=2000000) +contextual only[go_sem,↓reduceIte,r25_l0,g0,g3,hll,nat_lt_dec,hd,hx,hz,hw]
    refine IH (i+1) _ _ (by omega) ⟨by omega,?_,?_⟩
    all_goals simp +contextual only[go_sem,↓reduceIte,g0,hw]
  ·have:i=l.length:=by omega
   subst this
   simp (maxSteps:=2000000) +contextual only[go_sem,↓reduceIte,r25_l0,g0,g3,hll,nat_lt_dec,Nat.lt_irrefl,List.drop_length,firstOf]
 ·simp +contextual only[go_sem,↓reduceIte]
 ·simp +contextual only[go_sem,↓reduceIte]
  rfl
theorem cz25_3 (a b c:Int)(s:St):calZ U 25 (some [.fz [.int .i64 a,.int .i64 b,.int .i64 c]]) s=some (.int .i64 (firstOf [a,b,c]),s) :=
 cz_of (pure_go k25 (by kernel_rfl) (by simp[stills,still]) (g25 [a,b,c] (by simp))) (by kernel_rfl) (by simp[stills,still]) rfl s
theorem z25 {args:List AV}{s:St}(h:stills args=false):callK U (calV U 25 args) 25 args s=calZ U 25 (mapO (frz U s 40) args) s:=z_of (by kernel_rfl) s h
theorem c49 (a b:Auto):calV U 49 [encA a,encA b]=some (.int .i64 (chkTwo a b)):=by
 refine pure_go k49 (by kernel_rfl) (by simp[stills,still_encA]) ?_
 have h1:=c50 a
 have h2:=c50 b
 rw[encA_eq,encA_eq b] at *
 unfold encN encFs at *
 have nn:=noAgg_encS a.nNl (a.next.map encRow)
 have nf:=noAgg_encS a.fNl (a.fires.map encFRow)
 have cn:=cells_encS a.nNl (a.next.map encRow)
 have cf:=cells_encS a.fNl (a.fires.map encFRow)
 have nn':=noAgg_encS b.nNl (b.next.map encRow)
 have nf':=noAgg_encS b.fNl (b.fires.map encFRow)
 have cn':=cells_encS b.nNl (b.next.map encRow)
 have cf':=cells_encS b.fNl (b.fires.map encFRow)
 have hst:stills [AV.sl 20 0 3 (some 3) 1]=false:=rfl
 simp (maxSteps:=2000000) +contextual only[go_sem,↓reduceIte,r49,nn,nf,cn,cf,nn',nf',cn',cf',h1,h2,c37]
 simp (maxSteps:=2000000) +contextual only[go_sem,↓reduceIte,z25 hst,frz_sl,frzS_cells,grab_head,grab_zero,Option.map_some,cz25_3,frzT_one,chunks_all]
 rfl
theorem c103 (a:Auto)(h:a.next.length≤256):calV U 103 [encA a]=some (.tup [encA a,.int .i64 0]):=by
 refine pure_go k103 (by kernel_rfl) (by simp[stills,still_encA]) ?_
 rw[encA_eq a]
 unfold encN encFs
 have nn:=noAgg_encS a.nNl (a.next.map encRow)
 have nf:=noAgg_encS a.fNl (a.fires.map encFRow)
 have cn:=cells_encS a.nNl (a.next.map encRow)
 have cf:=cells_encS a.fNl (a.fires.map encFRow)
 have ln:=lenL_encS a.nNl (a.next.map encRow)
 rw[List.length_map] at ln
 have hd:decide ((a.next.length:Int)>256)=false:=by simp;omega
 simp (maxSteps:=2000000) +contextual only[go_sem,↓reduceIte,r103,nn,nf,cn,cf,ln,hd,frz_encS]
def pcell (k c:Nat):List AV:=[.int .i64 ((c / k:Nat):Int),.int .i64 ((c%k:Nat):Int)]
def entP (k:Nat)(f:Nat→AV):List Nat→Nat→List (AV×AV)
 |[],_=>[]
 |c::l,i=>(.agg (pcell k c),f i)::entP k f l (i+1)
theorem keyEqP {k:Nat}(c d:Nat):keyEq (.agg (pcell k c)) (.agg (pcell k d))=some (d==c):=by
 have hiff:(c / k=d / k∧c%k=d%k)↔d=c:=by
  constructor
  ·rintro⟨h1,h2⟩
   have:=Nat.div_add_mod c k
   have h3:=Nat.div_add_mod d k
   rw[h1,h2] at this
   omega
  ·rintro rfl;exact⟨rfl,rfl⟩
 have hs:sames (pcell k c) (pcell k d)=(d==c):=by
  rw[Bool.eq_iff_iff]
  simp only[pcell,sames,same,beq_iff_eq,Bool.and_eq_true]
  rw[←hiff]
  simp
  omega
 simp only[keyEq]
 rw[if_pos (by rfl),hs]
theorem findA_entP (k:Nat)(f:Nat→AV)(c:Nat):∀(ks:List Nat) (i:Nat),findA (.agg (pcell k c)) (entP k f ks i)=some (bif decide (idxN ks c<ks.length) then some (f (i+idxN ks c)) else none)
 |[],i=>rfl
 |x::l,i=>by
  rw[entP,findA,keyEqP,idxN]
  cases h:x==c with
  |true=>simp
  |false =>
   simp only[cond_false,List.length_cons]
   rw[findA_entP k f c l (i+1)]
   have e:decide (idxN l c+1<l.length+1)=decide (idxN l c<l.length):=by congr 1;apply propext;omega
   rw[e,show i+1+idxN l c=i+(idxN l c+1) by omega]
theorem putA_entP (k:Nat)(f:Nat→AV)(c:Nat):∀(ks:List Nat) (i:Nat),c∉ks→putA (.agg (pcell k c)) (f (i+ks.length)) (entP k f ks i)=some (entP k f (ks++[c]) i)
 |[],i,_=>rfl
 |x::l,i,h=>by
  rw[List.mem_cons,not_or] at h
  have hne:(x==c)=false:=by simpa using fun e=>h.1 (Eq.symm e)
  have ih:=putA_entP k f c l (i+1) h.2
  rw[show i+1+l.length=i+(x::l).length by rw[List.length_cons];omega] at ih
  rw[entP,putA,keyEqP,hne,List.cons_append,entP]
  simp only[ih]
theorem keyOkP (k c:Nat):keyOk U 186 (.agg (pcell k c))=true:=by
 have h1:U.und 186=some (.array 2 3):=by kernel_rfl
 have h2:U.und 3=some (.int .i64):=by kernel_rfl
 have h3:size U 3=some 1:=by kernel_rfl
 simp only[keyOk,h1,h2,h3,pcell]
 rfl
theorem lookup260 {s:St}{m k:Nat}{ks:List Nat}(h:s.get m=some (.map (entP k (fun _=>.bool true) ks 0) false))(c:Nat):lookupA U 260 (.map m) (.agg (pcell k c)) false s=some (.bool (decide (idxN ks c<ks.length))):=by
 have hu:U.und 260=some (.map 186 4):=by kernel_rfl
 have hz:zero U 4=some (.bool false):=by kernel_rfl
 unfold lookupA
 rw[hu]
 simp only[keyOkP,if_true,h,findA_entP]
 cases decide (idxN ks c<ks.length) with
 |true=>rfl
 |false=>simp only[cond_false,hz];rfl
theorem update260 {s:St}{m k:Nat}{ks:List Nat}(h:s.get m=some (.map (entP k (fun _=>.bool true) ks 0) false)){c:Nat}(hc:c∉ks):updateA U 260 (.map m) (.agg (pcell k c)) (.bool true) s=some (s.put m (.map (entP k (fun _=>.bool true) (ks++[c]) 0) false)):=by
 have hu:U.und 260=some (.map 186 4):=by kernel_rfl
 have:=putA_entP k (fun _=>.bool true) c ks 0 hc
 unfold updateA
 rw[hu]
 simp only[keyOkP,if_true,h,this]
theorem lookup259 {s:St}{m k:Nat}{ks:List Nat}(h:s.get m=some (.map (entP k (fun i=>.int .i64 (i:Int)) ks 0) false)){c:Nat}(hc:idxN ks c<ks.length):lookupA U 259 (.map m) (.agg (pcell k c)) false s=some (.int .i64 ((idxN ks c:Nat):Int)):=by
 have hu:U.und 259=some (.map 186 3):=by kernel_rfl
 unfold lookupA
 rw[hu]
 simp only[keyOkP,if_true,h,findA_entP]
 rw[decide_eq_true hc,cond_true,Nat.zero_add]
 rfl
theorem update259 {s:St}{m k:Nat}{ks:List Nat}(h:s.get m=some (.map (entP k (fun i=>.int .i64 (i:Int)) ks 0) false)){c:Nat}(hc:c∉ks):updateA U 259 (.map m) (.agg (pcell k c)) (.int .i64 ((ks.length:Nat):Int)) s=some (s.put m (.map (entP k (fun i=>.int .i64 (i:Int)) (ks++[c]) 0) false)):=by
 have hu:U.und 259=some (.map 186 3):=by kernel_rfl
 have:=putA_entP k (fun i=>.int .i64 (i:Int)) c ks 0 hc
 rw[Nat.zero_add] at this
 unfold updateA
 rw[hu]
 simp only[keyOkP,if_true,h,this]
structure Yld (fn:AV)(k B0:Nat)(G:Type)(CI:G→St→Prop)(fp:G→Nat→Prop)(dom:Nat→Nat→Prop)(y:Nat→Nat→Bool)(nxt:G→Nat→Nat→G→Prop):Prop where
 call:∀g c x s,dom c x→CI g s→Fr s→∃g' s',calv U fn [.agg (pcell k c),.int .i64 (x:Int)] s=some (.bool (y c x),s')∧nxt g c x g'∧CI g' s'∧(∀j,fp g' j→fp g j∨s.next≤j)∧(∀j,j<s.next→¬fp g j→s'.get j=s.get j)∧s.next≤s'.next∧Fr s'
 keep:∀g s s',CI g s→s.next≤s'.next→(∀j,j<s.next→(fp g j∨j<B0)→s'.get j=s.get j)→CI g s'
 lt:∀g s,CI g s→∀j,fp g j→j<s.next
def PrI (s:St)(N:Nat)(t:TypeId)(n:Nat)(cs:List AV)(v:AV):Prop:=∃b cap,v=.sl b 0 n cap 2∧(cap=none∨cap=some n)∧s.get b=some (.cells cs t false 0 0)∧cs.length=n*2∧N≤b∧b<s.next
theorem PrI.keep {s s':St}{N n:Nat}{t:TypeId}{cs:List AV}{v:AV}(h:PrI s N t n cs v)(hn:s.next≤s'.next)(hg:∀j,j<s.next→N≤j→s.get j=some (.cells cs t false 0 0)→s'.get j=s.get j):PrI s' N t n cs v:=by
 obtain⟨b,cap,h1,h2,h3,h4,h5,h6⟩:=h
 exact⟨b,cap,h1,h2,by rw[hg b h6 h5 h3];exact h3,h4,h5,by omega⟩
theorem PrI.app {s:St}{N n:Nat}{t:TypeId}{cs:List AV}{v:AV}(h:PrI s N t n cs v)(hN:N≤s.next)(x y:AV)(hx:noAgg x=true)(hy:noAgg y=true) :
  ∃s1,appD t 2 1 [x,y] v s=some (.sl s.next 0 (n+1) none 2,s1)∧s1.next=s.next+1∧PrI s1 N t (n+1) (cs++[x,y]) (.sl s.next 0 (n+1) none 2)∧(∀j,j<s.next→s.get j≠some (.cells cs t false 0 0)→s1.get j=s.get j)∧(Fr s→Fr s1):=by
 obtain⟨b,cap,rfl,h2,h3,h4,h5,h6⟩:=h
 rcases h2 with rfl|rfl
 ·refine⟨(s.put b .gone).new (.cells (cs++[x,y]) t false 0 0),by rw[appD_sl,h3,appS_cells h4 (by omega) (by simp[hx,hy])],rfl,⟨s.next,none,rfl,.inl rfl,by rw[get_new,next_put,if_pos rfl],by simp[h4];omega,hN,by rw[next_new,next_put];omega⟩,fun j hj hne=>?_,fun hf=>(hf.put h6 _).new _⟩
  have:b≠j:=by rintro rfl;exact hne h3
  rw[get_new,next_put,if_neg (by omega),get_put,if_neg this]
 ·refine⟨s.new (.cells (cs++[x,y]) t false 0 0),by rw[appD_slk h3 h4 (by omega)],rfl,⟨s.next,none,rfl,.inl rfl,by rw[get_new,if_pos rfl],by simp[h4];omega,hN,by rw[next_new];omega⟩,fun j hj hne=>?_,fun hf=>hf.new _⟩
  rw[get_new,if_neg (by omega)]
def pcs (k:Nat)(L:List Nat):List AV:=L.flatMap (pcell k)
def scs (L:List (Int×Int)):List AV:=L.flatMap fun p=>[.int .i64 p.1,.int .i64 p.2]
def stp:List Trip→List (Int×Int)
 |[]=>[]
 |_::l=>(-1,0)::l.map fun t=>((t.2.1:Int),(t.2.2:Int))
def codes (T:List Trip):List Nat:=T.map (·.1)
def isB2 (v:AV)(j:Nat):Prop:=∃n cap,v=.sl j 0 n cap 2
theorem isB2_sl (b n j:Nat)(cap:Option Nat):isB2 (.sl b 0 n cap 2) j↔b=j:=by
 constructor
 ·rintro⟨m,c,h⟩;cases h;rfl
 ·rintro rfl;exact⟨n,cap,rfl⟩
theorem PrI.ltB {s:St}{N n:Nat}{t:TypeId}{cs:List AV}{v:AV}(h:PrI s N t n cs v){j:Nat}(hj:isB2 v j):N≤j∧j<s.next∧s.get j=some (.cells cs t false 0 0):=by
 obtain⟨b,cap,rfl,h2,h3,h4,h5,h6⟩:=h
 rw[isB2_sl] at hj;subst hj;exact⟨h5,h6,h3⟩
theorem PrI.keepB {s s':St}{N n:Nat}{t:TypeId}{cs:List AV}{v:AV}(h:PrI s N t n cs v)(hn:s.next≤s'.next)(hg:∀j,j<s.next→isB2 v j→s'.get j=s.get j):PrI s' N t n cs v:=by
 obtain⟨b,cap,rfl,h2,h3,h4,h5,h6⟩:=h
 exact⟨b,cap,rfl,h2,by rw[hg b h6 ((isB2_sl _ _ _ _).2 rfl)];exact h3,h4,h5,by omega⟩
theorem PrI.appB {s:St}{N n:Nat}{t:TypeId}{cs:List AV}{v:AV}(h:PrI s N t n cs v)(hN:N≤s.next)(x y:AV)(hx:noAgg x=true)(hy:noAgg y=true) :
  ∃s1,appD t 2 1 [x,y] v s=some (.sl s.next 0 (n+1) none 2,s1)∧s1.next=s.next+1∧PrI s1 N t (n+1) (cs++[x,y]) (.sl s.next 0 (n+1) none 2)∧(∀j,j<s.next→¬isB2 v j→s1.get j=s.get j)∧(Fr s→Fr s1):=by
 obtain⟨b,cap,rfl,h2,h3,h4,h5,h6⟩:=h
 rcases h2 with rfl|rfl
 ·refine⟨(s.put b .gone).new (.cells (cs++[x,y]) t false 0 0),by rw[appD_sl,h3,appS_cells h4 (by omega) (by simp[hx,hy])],rfl,⟨s.next,none,rfl,.inl rfl,by rw[get_new,next_put,if_pos rfl],by simp[h4];omega,hN,by rw[next_new,next_put];omega⟩,fun j hj hne=>?_,fun hf=>(hf.put h6 _).new _⟩
  rw[isB2_sl] at hne
  rw[get_new,next_put,if_neg (by omega),get_put,if_neg hne]
 ·refine⟨s.new (.cells (cs++[x,y]) t false 0 0),by rw[appD_slk h3 h4 (by omega)],rfl,⟨s.next,none,rfl,.inl rfl,by rw[get_new,if_pos rfl],by simp[h4];omega,hN,by rw[next_new];omega⟩,fun j hj hne=>?_,fun hf=>hf.new _⟩
  rw[get_new,if_neg (by omega)]
theorem PrI.lenA {s:St}{N n:Nat}{t:TypeId}{cs:List AV}{v:AV}(h:PrI s N t n cs v):Go.Am.lenA v=n:=by
 obtain⟨b,cap,rfl,_⟩:=h;rfl
theorem pcell_nx {a b:Auto}(hb:b.ok)(hlb:a.lines=b.lines){c x:Nat}(hc:c<(prodF a.fa b.fa).n)(hx:x<2^a.lines.toNat):pcell b.fa.n ((prodF a.fa b.fa).nx c x)=[.int .i64 ((a.fa.nx (c / b.fa.n) x:Nat):Int),.int .i64 ((b.fa.nx (c%b.fa.n) x:Nat):Int)]:=by
 have h:=hb.faok.lt (c%b.fa.n) x (Nat.mod_lt _ hb.pos) (by show x<2^b.lines.toNat;rw[←hlb];exact hx)
 show[AV.int .i64 (((a.fa.nx (c / b.fa.n) x*b.fa.n+b.fa.nx (c%b.fa.n) x) / b.fa.n:Nat):Int),AV.int .i64 (((a.fa.nx (c / b.fa.n) x*b.fa.n+b.fa.nx (c%b.fa.n) x)%b.fa.n:Nat):Int)]=_
 rw[pair_div h,pair_mod h]
inductive Stps {G:Type} (nxt:G→Nat→Nat→G→Prop):G→List (Nat×Nat)→G→Prop
 |nil (g:G):Stps nxt g [] g
 |snoc {g g1 g2:G} {l:List (Nat×Nat)} {c x:Nat}:Stps nxt g l g1→nxt g1 c x g2→Stps nxt g (l++[(c,x)]) g2
structure Vis (s:St)(N:Nat)(a b:Auto)(fpg:Nat→Prop)(A0 B0 mp pt:Nat)(T:List Trip)(pv sv:AV):Prop where
 gA:s.get A0=some (.cells [.int .i64 a.lines,encS a.nNl (a.next.map encRow),encS a.fNl (a.fires.map encFRow)] 69 false 0 0)
 gB:s.get B0=some (.cells [.int .i64 b.lines,encS b.nNl (b.next.map encRow),encS b.fNl (b.fires.map encFRow)] 69 false 0 0)
 gm:s.get mp=some (.map (entP b.fa.n (fun _=>.bool true) (codes T) 0) false)
 hp:PrI s N 186 T.length (pcs b.fa.n (codes T)) pv
 hs:PrI s N 262 T.length (scs (stp T)) sv
 lt:A0<s.next∧B0<s.next∧mp<s.next∧pt<s.next∧N≤A0∧N≤B0∧N≤mp∧N≤pt
 fA:¬fpg A0∧¬fpg B0∧¬fpg mp∧¬fpg pt
 fp:∀j,isB2 pv j→¬fpg j∧j≠pt
 fs:∀j,isB2 sv j→¬fpg j
 np:A0≠pt∧B0≠pt∧mp≠pt
theorem Vis.ne {s:St}{N:Nat}{a b:Auto}{fpg:Nat→Prop}{A0 B0 mp pt:Nat}{T:List Trip}{pv sv:AV}(h:Vis s N a b fpg A0 B0 mp pt T pv sv):(∀j,isB2 pv j→j≠A0∧j≠B0∧j≠mp∧¬isB2 sv j)∧(∀j,isB2 sv j→j≠A0∧j≠B0∧j≠mp)∧A0≠mp∧B0≠mp:=by
 refine⟨fun j hj=>?_,fun j hj=>?_,?_,?_⟩
 ·have h1:=(h.hp.ltB hj).2.2
  refine⟨blk_ne h1 h.gA (by decide),blk_ne h1 h.gB (by decide),?_,fun h2=>?_⟩
  ·rintro rfl;rw[h.gm] at h1;cases h1
  ·exact blk_ne h1 (h.hs.ltB h2).2.2 (by decide) rfl
 ·have h1:=(h.hs.ltB hj).2.2
  refine⟨blk_ne h1 h.gA (by decide),blk_ne h1 h.gB (by decide),?_⟩
  rintro rfl;rw[h.gm] at h1;cases h1
 ·rintro rfl;have:=h.gm.symm.trans h.gA;cases this
 ·rintro rfl;have:=h.gm.symm.trans h.gB;cases this
theorem Vis.keep {s s':St}{N:Nat}{a b:Auto}{f f':Nat→Prop}{A0 B0 mp pt:Nat}{T:List Trip}{pv sv:AV}(h:Vis s N a b f A0 B0 mp pt T pv sv)(hn:s.next≤s'.next)(hg:∀j,j<s.next→N≤j→¬f j→s'.get j=s.get j)(hf:∀j,f' j→f j∨s.next≤j):Vis s' N a b f' A0 B0 mp pt T pv sv:=by
 obtain⟨gA,gB,gm,hp,hs,⟨l1,l2,l3,l4,l5,l6,l7,l8⟩,⟨f1,f2,f3,f4⟩,fp,fs,np⟩:=h
 have nf:∀j,j<s.next→¬f j→¬f' j:=fun j h1 h2 h3=>by rcases hf j h3 with h|h;exact h2 h;omega
 exact⟨(hg _ l1 l5 f1).trans gA,(hg _ l2 l6 f2).trans gB,(hg _ l3 l7 f3).trans gm,hp.keepB hn fun j h1 h2=>hg j h1 (hp.ltB h2).1 (fp j h2).1,hs.keepB hn fun j h1 h2=>hg j h1 (hs.ltB h2).1 (fs j h2),⟨by omega,by omega,by omega,by omega,l5,l6,l7,l8⟩,⟨nf _ l1 f1,nf _ l2 f2,nf _ l3 f3,nf _ l4 f4⟩,fun j hj=>⟨nf j (hp.ltB hj).2.1 (fp j hj).1,(fp j hj).2⟩,fun j hj=>nf j (hs.ltB hj).2.1 (fs j hj),np⟩
end Go.Am
