/- A part of the proof; the last text states what is proved. -/
import Derived.Test.YtckobjgahmmkaaaP3
import Derived.Test.YtckobjgahmmkaaaProg
import Derived.IntWalk
set_option linter.unusedVariables false
set_option linter.unusedSimpArgs false
set_option maxRecDepth 100000
namespace Go.Abs
open Go.Proofs
def f20r1 : List AI := [⟨none, (.mov 2 (.v (.k (.c (.int .i64 0)))))⟩]
def f20b2 : AQ := (.seq (.region f20r1) .ret)
def f20r3 : List AI := [⟨none, (.bin 76 .add (.t 57) (.v (.k (.c (.int .i64 1)))))⟩, ⟨none, (.mov 57 (.t 76))⟩]
def f20r4 : List AI := [⟨none, (.mov 2 (.v (.k (.c (.int .i64 11)))))⟩]
def f20b5 : AQ := (.seq (.region f20r4) .ret)
def f20b6 : AQ := (.cond (.t 75) f20b5 .skip)
def f20r7 : List AI := [⟨none, (.mov 70 (.t 11))⟩, ⟨none, (.faddr 71 0 (.t 10))⟩, ⟨none, (.load 72 1 false (.t 71))⟩, ⟨none, (.iaddrA 73 1 22 (.t 8) (.t 72))⟩, ⟨none, (.load 74 1 false (.t 73))⟩, ⟨none, (.bin 75 .neq (.t 70) (.t 74))⟩]
def f20b8 : AQ := (.seq (.region f20r7) f20b6)
def f20r9 : List AI := [⟨none, (.mov 69 (.t 12))⟩, ⟨none, (.mov 2 (.t 69))⟩]
def f20b10 : AQ := (.seq (.region f20r9) .ret)
def f20b11 : AQ := (.cond (.t 68) f20b10 .skip)
def f20r12 : List AI := [⟨none, (.mov 67 (.t 12))⟩, ⟨none, (.bin 68 .neq (.t 67) (.v (.k (.c (.int .i64 0)))))⟩]
def f20b13 : AQ := (.seq (.region f20r12) f20b11)
def f20b14 : AQ := (.seq f20b13 f20b8)
def f20r15 : List AI := [⟨none, (.faddr 62 1 (.t 10))⟩, ⟨none, (.load 63 3 true (.t 62))⟩, ⟨none, (.call (some 64) 31 [(.t 63)])⟩, ⟨none, (.mov 61 (.t 64))⟩, ⟨none, (.extr 65 (.t 61) 0)⟩, ⟨none, (.extr 66 (.t 61) 1)⟩, ⟨none, (.mov 11 (.t 65))⟩, ⟨none, (.mov 12 (.t 66))⟩]
def f20b16 : AQ := (.seq (.region f20r15) f20b14)
def f20r17 : List AI := [⟨none, (.iaddr 59 4 (.t 55) (.t 57))⟩, ⟨none, (.load 60 4 true (.t 59))⟩, ⟨none, (.alloc 10 43 [(.int .i64 0), (.int .i64 0), (.int .i64 0), (.list 0 (some true) [])])⟩, ⟨none, (.store 4 (.t 10) (.t 60))⟩]
def f20b18 : AQ := (.seq (.region f20r17) f20b16)
def f20b19 : AQ := (.block 5 f20b18)
def f20b20 : AQ := (.seq f20b19 (.region f20r3))
def f20b21 : AQ := (.cond (.t 58) .skip (.exit 4))
def f20b22 : AQ := (.seq f20b21 f20b20)
def f20r23 : List AI := [⟨none, (.bin 58 .lss (.t 57) (.t 56))⟩]
def f20b24 : AQ := (.seq (.region f20r23) f20b22)
def f20l25 : AQ := .loop [8, 55, 56, 57] [8, 53, 54000, 54001, 54002] f20b24
def f20b26 : AQ := (.block 4 f20l25)
def f20r27 : List AI := [⟨none, (.faddr 54 3 (.t 1))⟩, ⟨none, (.load 55 1 false (.t 54))⟩, ⟨none, (.len 56 (.t 55))⟩, ⟨none, (.mov 57 (.v (.k (.c (.int .i64 0)))))⟩]
def f20b28 : AQ := (.seq (.region f20r27) f20b26)
def f20b29 : AQ := (.seq f20b28 f20b2)
def f20r30 : List AI := [⟨none, (.call (some 53) 44 [])⟩, ⟨none, (.alloc 8 65 [(.int .i64 0), (.int .i64 0), (.int .i64 0), (.int .i64 0), (.int .i64 0), (.int .i64 0), (.int .i64 0), (.int .i64 0), (.int .i64 0), (.int .i64 0), (.int .i64 0), (.int .i64 0), (.int .i64 0), (.int .i64 0), (.int .i64 0), (.int .i64 0), (.int .i64 0), (.int .i64 0), (.int .i64 0), (.int .i64 0), (.int .i64 0), (.int .i64 0)])⟩, ⟨none, (.store 22 (.t 8) (.t 53))⟩]
def f20b31 : AQ := (.seq (.region f20r30) f20b29)
def f20r32 : List AI := [⟨none, (.bin 52 .add (.t 41) (.v (.k (.c (.int .i64 1)))))⟩, ⟨none, (.mov 41 (.t 52))⟩]
def f20r33 : List AI := [⟨none, (.faddr 50 0 (.t 7))⟩, ⟨none, (.load 51 1 false (.t 50))⟩, ⟨none, (.mov 3 (.t 51))⟩]
def f20r34 : List AI := [⟨none, (.mov 2 (.v (.k (.c (.int .i64 1)))))⟩]
def f20b35 : AQ := (.seq (.region f20r34) .ret)
def f20b36 : AQ := (.cond (.t 49) f20b35 .skip)
def f20r37 : List AI := [⟨none, (.mov 45 (.t 3))⟩, ⟨none, (.faddr 46 0 (.t 7))⟩, ⟨none, (.load 47 1 false (.t 46))⟩, ⟨none, (.call (some 48) 45 [(.t 45), (.t 47)])⟩, ⟨none, (.un 49 .not (.t 48))⟩]
def f20b38 : AQ := (.seq (.region f20r37) f20b36)
def f20b39 : AQ := (.seq f20b38 (.region f20r33))
def f20r40 : List AI := [⟨none, (.iaddr 43 4 (.t 39) (.t 41))⟩, ⟨none, (.load 44 4 true (.t 43))⟩, ⟨none, (.alloc 7 43 [(.int .i64 0), (.int .i64 0), (.int .i64 0), (.list 0 (some true) [])])⟩, ⟨none, (.store 4 (.t 7) (.t 44))⟩]
def f20b41 : AQ := (.seq (.region f20r40) f20b39)
def f20b42 : AQ := (.block 3 f20b41)
def f20b43 : AQ := (.seq f20b42 (.region f20r32))
def f20b44 : AQ := (.cond (.t 42) .skip (.exit 2))
def f20b45 : AQ := (.seq f20b44 f20b43)
def f20r46 : List AI := [⟨none, (.bin 42 .lss (.t 41) (.t 40))⟩]
def f20b47 : AQ := (.seq (.region f20r46) f20b45)
def f20l48 : AQ := .loop [1, 3, 39, 40, 41] [1] f20b47
def f20b49 : AQ := (.block 2 f20l48)
def f20r50 : List AI := [⟨none, (.faddr 38 3 (.t 1))⟩, ⟨none, (.load 39 1 false (.t 38))⟩, ⟨none, (.len 40 (.t 39))⟩, ⟨none, (.mov 41 (.v (.k (.c (.int .i64 0)))))⟩]
def f20b51 : AQ := (.seq (.region f20r50) f20b49)
def f20b52 : AQ := (.seq f20b51 f20b31)
def f20r53 : List AI := [⟨none, (.mov 3 (.v (.k (.c (.int .i64 (-1))))))⟩]
def f20b54 : AQ := (.seq (.region f20r53) f20b52)
def f20r55 : List AI := [⟨none, (.bin 37 .add (.t 16) (.v (.k (.c (.int .i64 1)))))⟩, ⟨none, (.mov 16 (.t 37))⟩]
def f20r56 : List AI := [⟨none, (.faddr 35 0 (.t 5))⟩, ⟨none, (.load 36 1 false (.t 35))⟩, ⟨none, (.mov 3 (.t 36))⟩]
def f20r57 : List AI := [⟨none, (.mov 2 (.v (.k (.c (.int .i64 1)))))⟩]
def f20b58 : AQ := (.seq (.region f20r57) .ret)
def f20b59 : AQ := (.cond (.t 34) f20b58 .skip)
def f20r60 : List AI := [⟨none, (.mov 20 (.t 3))⟩, ⟨none, (.faddr 21 0 (.t 5))⟩, ⟨none, (.load 22 1 false (.t 21))⟩, ⟨none, (.call (some 23) 45 [(.t 20), (.t 22)])⟩, ⟨none, (.un 24 .not (.t 23))⟩, ⟨none, (.mov 25 (.t 24))⟩, ⟨(some (25, false)), (.faddr 26 1 (.t 5))⟩, ⟨(some (25, false)), (.load 27 1 false (.t 26))⟩, ⟨(some (25, false)), (.bin 28 .lss (.t 27) (.v (.k (.c (.int .i64 0)))))⟩, ⟨none, (.pick 29 (.t 25) (.v (.k (.c (.bool true)))) (.t 28))⟩, ⟨none, (.mov 30 (.t 29))⟩, ⟨(some (30, false)), (.faddr 31 1 (.t 5))⟩, ⟨(some (30, false)), (.load 32 1 false (.t 31))⟩, ⟨(some (30, false)), (.bin 33 .geq (.t 32) (.v (.k (.c (.int .i64 5)))))⟩, ⟨none, (.pick 34 (.t 30) (.v (.k (.c (.bool true)))) (.t 33))⟩]
def f20b61 : AQ := (.seq (.region f20r60) f20b59)
def f20b62 : AQ := (.seq f20b61 (.region f20r56))
def f20r63 : List AI := [⟨none, (.iaddr 18 3 (.t 14) (.t 16))⟩, ⟨none, (.load 19 3 true (.t 18))⟩, ⟨none, (.alloc 5 45 [(.int .i64 0), (.int .i64 0), (.bool false)])⟩, ⟨none, (.store 3 (.t 5) (.t 19))⟩]
def f20b64 : AQ := (.seq (.region f20r63) f20b62)
def f20b65 : AQ := (.block 1 f20b64)
def f20b66 : AQ := (.seq f20b65 (.region f20r55))
def f20b67 : AQ := (.cond (.t 17) .skip (.exit 0))
def f20b68 : AQ := (.seq f20b67 f20b66)
def f20r69 : List AI := [⟨none, (.bin 17 .lss (.t 16) (.t 15))⟩]
def f20b70 : AQ := (.seq (.region f20r69) f20b68)
def f20l71 : AQ := .loop [1, 3, 14, 15, 16] [1] f20b70
def f20b72 : AQ := (.block 0 f20l71)
def f20r73 : List AI := [⟨none, (.faddr 13 2 (.t 1))⟩, ⟨none, (.load 14 1 false (.t 13))⟩, ⟨none, (.len 15 (.t 14))⟩, ⟨none, (.mov 16 (.v (.k (.c (.int .i64 0)))))⟩]
def f20b74 : AQ := (.seq (.region f20r73) f20b72)
def f20b75 : AQ := (.seq f20b74 f20b54)
def f20r76 : List AI := [⟨none, (.mov 3 (.v (.k (.c (.int .i64 (-1))))))⟩]
def f20b77 : AQ := (.seq (.region f20r76) f20b75)
def f20r78 : List AI := [⟨none, (.box 1 25 (.t 0))⟩, ⟨none, (.mov 2 (.v (.k (.c (.int .i64 0)))))⟩]
def f20b79 : AQ := (.seq (.region f20r78) f20b77)
def f20 : AQ := f20b79
def f22r1 : List AI := [⟨none, (.mov 4 (.v (.k (.c (.bool true)))))⟩]
theorem uf22r1 : type_of% @f22r1.eq_1 := id @f22r1.eq_1
def f22b2 : AQ := (.seq (.region f22r1) .ret)
theorem uf22b2 (P ts os Q) : awl P f22b2 Q ts os = awl P (.seq (.region f22r1) .ret) Q ts os := id rfl
def f22r3 : List AI := [⟨none, (.mov 15 (.t 5))⟩, ⟨none, (.bin 16 .add (.t 15) (.v (.k (.c (.int .i64 1)))))⟩, ⟨none, (.mov 5 (.t 16))⟩]
theorem uf22r3 : type_of% @f22r3.eq_1 := id @f22r3.eq_1
def f22r4 : List AI := [⟨none, (.mov 4 (.v (.k (.c (.bool false)))))⟩]
theorem uf22r4 : type_of% @f22r4.eq_1 := id @f22r4.eq_1
def f22b5 : AQ := (.seq (.region f22r4) .ret)
theorem uf22b5 (P ts os Q) : awl P f22b5 Q ts os = awl P (.seq (.region f22r4) .ret) Q ts os := id rfl
def f22b6 : AQ := (.cond (.t 25) f22b5 .skip)
theorem uf22b6 (P ts os Q) : awl P f22b6 Q ts os = awl P (.cond (.t 25) f22b5 .skip) Q ts os := id rfl
def f22r7 : List AI := [⟨none, (.mov 17 (.t 0))⟩, ⟨none, (.mov 18 (.t 5))⟩, ⟨none, (.iaddr 19 1 (.t 17) (.t 18))⟩, ⟨none, (.load 20 1 false (.t 19))⟩, ⟨none, (.mov 21 (.t 1))⟩, ⟨none, (.mov 22 (.t 5))⟩, ⟨none, (.iaddr 23 1 (.t 21) (.t 22))⟩, ⟨none, (.load 24 1 false (.t 23))⟩, ⟨none, (.bin 25 .neq (.t 20) (.t 24))⟩]
theorem uf22r7 : type_of% @f22r7.eq_1 := id @f22r7.eq_1
def f22b8 : AQ := (.seq (.draw f22r7 [[], [], [0, 1], [2], [], [], [4, 5], [6], [3, 7]]) f22b6)
theorem uf22b8 (P ts os Q) : awl P f22b8 Q ts os = awl P (.seq (.draw f22r7 [[], [], [0, 1], [2], [], [], [4, 5], [6], [3, 7]]) f22b6) Q ts os := id rfl
def f22b9 : AQ := (.block 1 f22b8)
theorem uf22b9 (P ts os Q) : awl P f22b9 Q ts os = awl P (.block 1 f22b8) Q ts os := id rfl
def f22b10 : AQ := (.seq f22b9 (.region f22r3))
theorem uf22b10 (P ts os Q) : awl P f22b10 Q ts os = awl P (.seq f22b9 (.region f22r3)) Q ts os := id rfl
def f22b11 : AQ := (.cond (.t 14) .skip (.exit 0))
theorem uf22b11 (P ts os Q) : awl P f22b11 Q ts os = awl P (.cond (.t 14) .skip (.exit 0)) Q ts os := id rfl
def f22r12 : List AI := [⟨none, (.mov 11 (.t 5))⟩, ⟨none, (.mov 12 (.t 0))⟩, ⟨none, (.len 13 (.t 12))⟩, ⟨none, (.bin 14 .lss (.t 11) (.t 13))⟩]
theorem uf22r12 : type_of% @f22r12.eq_1 := id @f22r12.eq_1
def f22b13 : AQ := (.seq (.region f22r12) f22b11)
theorem uf22b13 (P ts os Q) : awl P f22b13 Q ts os = awl P (.seq (.region f22r12) f22b11) Q ts os := id rfl
def f22b14 : AQ := (.seq f22b13 f22b10)
theorem uf22b14 (P ts os Q) : awl P f22b14 Q ts os = awl P (.seq f22b13 f22b10) Q ts os := id rfl
def f22l15 : AQ := .loop [0, 1, 5] [] f22b14
theorem uf22l15 (P ts os Q) : awl P f22l15 Q ts os = awl P (.loop [0, 1, 5] [] f22b14) Q ts os := id rfl
def f22b16 : AQ := (.block 0 f22l15)
theorem uf22b16 (P ts os Q) : awl P f22b16 Q ts os = awl P (.block 0 f22l15) Q ts os := id rfl
def f22r17 : List AI := [⟨none, (.mov 5 (.v (.k (.c (.int .i64 0)))))⟩]
theorem uf22r17 : type_of% @f22r17.eq_1 := id @f22r17.eq_1
def f22b18 : AQ := (.seq (.region f22r17) f22b16)
theorem uf22b18 (P ts os Q) : awl P f22b18 Q ts os = awl P (.seq (.region f22r17) f22b16) Q ts os := id rfl
def f22b19 : AQ := (.seq f22b18 f22b2)
theorem uf22b19 (P ts os Q) : awl P f22b19 Q ts os = awl P (.seq f22b18 f22b2) Q ts os := id rfl
def f22r20 : List AI := [⟨none, (.mov 4 (.v (.k (.c (.bool false)))))⟩]
theorem uf22r20 : type_of% @f22r20.eq_1 := id @f22r20.eq_1
def f22b21 : AQ := (.seq (.region f22r20) .ret)
theorem uf22b21 (P ts os Q) : awl P f22b21 Q ts os = awl P (.seq (.region f22r20) .ret) Q ts os := id rfl
def f22b22 : AQ := (.cond (.t 10) f22b21 .skip)
theorem uf22b22 (P ts os Q) : awl P f22b22 Q ts os = awl P (.cond (.t 10) f22b21 .skip) Q ts os := id rfl
def f22r23 : List AI := [⟨none, (.mov 6 (.t 0))⟩, ⟨none, (.len 7 (.t 6))⟩, ⟨none, (.mov 8 (.t 1))⟩, ⟨none, (.len 9 (.t 8))⟩, ⟨none, (.bin 10 .neq (.t 7) (.t 9))⟩]
theorem uf22r23 : type_of% @f22r23.eq_1 := id @f22r23.eq_1
def f22b24 : AQ := (.seq (.region f22r23) f22b22)
theorem uf22b24 (P ts os Q) : awl P f22b24 Q ts os = awl P (.seq (.region f22r23) f22b22) Q ts os := id rfl
def f22b25 : AQ := (.seq f22b24 f22b19)
theorem uf22b25 (P ts os Q) : awl P f22b25 Q ts os = awl P (.seq f22b24 f22b19) Q ts os := id rfl
def f22r26 : List AI := [⟨none, (.mov 4 (.v (.k (.c (.bool false)))))⟩]
theorem uf22r26 : type_of% @f22r26.eq_1 := id @f22r26.eq_1
def f22b27 : AQ := (.seq (.region f22r26) f22b25)
theorem uf22b27 (P ts os Q) : awl P f22b27 Q ts os = awl P (.seq (.region f22r26) f22b25) Q ts os := id rfl
def f22 : AQ := f22b27
theorem uf22 (P ts os Q) : awl P f22 Q ts os = awl P f22b27 Q ts os := id rfl
theorem hf22 : cFunc Try.prog 22 = some ⟨26, f22.erase, [(RX.t 4)]⟩ := by kernel_rfl
theorem okf22 : f22.ok = true := by kernel_rfl
def f29r1 : List AI := [⟨none, (.load 70 3 true (.t 1))⟩, ⟨none, (.call (some 71) 57 [(.v (.k (.c (.int .i64 15)))), (.v (.k (.c (.int .i64 1))))])⟩, ⟨none, (.call (some 72) 39 [(.t 70), (.t 71)])⟩, ⟨none, (.bslice 73 3 1 [(.int .i64 0)] 1 [(0, (.v (.k (.c (.int .i64 18)))))])⟩, ⟨none, (.call (some 74) 22 [(.t 72), (.t 73)])⟩, ⟨none, (.mov 75 (.t 74))⟩, ⟨(some (75, true)), (.load 76 3 true (.t 3))⟩, ⟨(some (75, true)), (.call (some 77) 57 [(.v (.k (.c (.int .i64 17)))), (.v (.k (.c (.int .i64 1))))])⟩, ⟨(some (75, true)), (.call (some 78) 39 [(.t 76), (.t 77)])⟩, ⟨(some (75, true)), (.bslice 79 3 1 [(.int .i64 0)] 1 [(0, (.v (.k (.c (.int .i64 0)))))])⟩, ⟨(some (75, true)), (.call (some 80) 22 [(.t 78), (.t 79)])⟩, ⟨none, (.pick 81 (.t 75) (.t 80) (.v (.k (.c (.bool false)))))⟩, ⟨none, (.mov 82 (.t 81))⟩, ⟨(some (82, true)), (.load 83 3 true (.t 4))⟩, ⟨(some (82, true)), (.call (some 84) 57 [(.v (.k (.c (.int .i64 0)))), (.v (.k (.c (.int .i64 1099511627776))))])⟩, ⟨(some (82, true)), (.call (some 85) 37 [(.t 83), (.t 84)])⟩, ⟨(some (82, true)), (.build 86 [(.bool false), (.int .i64 0)] [(0, (1, (.v (.k (.c (.bool true)))))), (1, (1, (.v (.k (.c (.int .i64 1099511627776))))))])⟩, ⟨(some (82, true)), (.eqAgg 87 false [.bool, .int] (.t 85) (.t 86))⟩, ⟨none, (.pick 88 (.t 82) (.t 87) (.v (.k (.c (.bool false)))))⟩, ⟨none, (.mov 89 (.t 88))⟩, ⟨(some (89, true)), (.load 90 3 true (.t 3))⟩, ⟨(some (89, true)), (.call (some 91) 35 [(.t 90)])⟩, ⟨(some (89, true)), (.bslice 92 3 1 [(.int .i64 0)] 2 [(0, (.v (.k (.c (.int .i64 0))))), (1, (.v (.k (.c (.int .i64 17)))))])⟩, ⟨(some (89, true)), (.call (some 93) 22 [(.t 91), (.t 92)])⟩, ⟨none, (.pick 94 (.t 89) (.t 93) (.v (.k (.c (.bool false)))))⟩, ⟨none, (.mov 0 (.t 94))⟩]
theorem uf29r1 : type_of% @f29r1.eq_1 := id @f29r1.eq_1
def f29b2 : AQ := (.seq (.draw f29r1 [[], [], [0, 1, 1], [], [2, 3, 2], [4, 4], [5], [5, 5], [6, 7, 7, 5], [5], [8, 9, 8, 5], [5, 10], [11, 10], [12], [12, 12], [13, 14, 14, 12], [12], [15, 16, 12], [12, 17], [18, 15], [19], [20, 19, 19], [19], [21, 22, 21, 19], [19, 23], [24, 23, 0, 1, 2, 3, 4, 5, 6, 7, 8, 9, 10, 11, 12, 13, 14, 15, 16, 17, 18, 19, 20, 21, 22, 23, 24]]) .ret)
theorem uf29b2 (P ts os Q) : awl P f29b2 Q ts os = awl P (.seq (.draw f29r1 [[], [], [0, 1, 1], [], [2, 3, 2], [4, 4], [5], [5, 5], [6, 7, 7, 5], [5], [8, 9, 8, 5], [5, 10], [11, 10], [12], [12, 12], [13, 14, 14, 12], [12], [15, 16, 12], [12, 17], [18, 15], [19], [20, 19, 19], [19], [21, 22, 21, 19], [19, 23], [24, 23, 0, 1, 2, 3, 4, 5, 6, 7, 8, 9, 10, 11, 12, 13, 14, 15, 16, 17, 18, 19, 20, 21, 22, 23, 24]]) .ret) Q ts os := id rfl
def f29r3 : List AI := [⟨none, (.mov 0 (.v (.k (.c (.bool false)))))⟩]
def f29b4 : AQ := (.seq (.region f29r3) .ret)
def f29b5 : AQ := (.cond (.t 69) f29b4 .skip)
theorem uf29b5 (P ts os Q) : awl P f29b5 Q ts os = awl P (.cond (.t 69) f29b4 .skip) Q ts os := id rfl
def f29r6 : List AI := [⟨none, (.load 60 3 true (.t 2))⟩, ⟨none, (.call (some 61) 37 [(.t 60), (.v (.k (.c (.list 0 (some true) []))))])⟩, ⟨none, (.build 62 [(.bool false), (.int .i64 0)] [(0, (1, (.v (.k (.c (.bool true)))))), (1, (1, (.v (.k (.c (.int .i64 3))))))])⟩, ⟨none, (.eqAgg 63 true [.bool, .int] (.t 61) (.t 62))⟩, ⟨none, (.mov 64 (.t 63))⟩, ⟨(some (64, false)), (.load 65 3 true (.t 3))⟩, ⟨(some (64, false)), (.call (some 66) 57 [(.v (.k (.c (.int .i64 17)))), (.v (.k (.c (.int .i64 1))))])⟩, ⟨(some (64, false)), (.call (some 67) 37 [(.t 65), (.t 66)])⟩, ⟨(some (64, false)), (.field 68 0 1 false (.t 67))⟩, ⟨none, (.pick 69 (.t 64) (.v (.k (.c (.bool true)))) (.t 68))⟩]
theorem uf29r6 : type_of% @f29r6.eq_1 := id @f29r6.eq_1
def f29b7 : AQ := (.seq (.draw f29r6 [[], [0], [], [1, 2], [3, 1], [4], [4, 4], [5, 6, 6, 4], [7, 4], [4, 8]]) f29b5)
theorem uf29b7 (P ts os Q) : awl P f29b7 Q ts os = awl P (.seq (.draw f29r6 [[], [0], [], [1, 2], [3, 1], [4], [4, 4], [5, 6, 6, 4], [7, 4], [4, 8]]) f29b5) Q ts os := id rfl
def f29b8 : AQ := (.seq f29b7 f29b2)
theorem uf29b8 (P ts os Q) : awl P f29b8 Q ts os = awl P (.seq f29b7 f29b2) Q ts os := id rfl
def f29r9 : List AI := [⟨none, (.mov 0 (.v (.k (.c (.bool false)))))⟩]
def f29b10 : AQ := (.seq (.region f29r9) .ret)
def f29b11 : AQ := (.cond (.t 59) f29b10 .skip)
theorem uf29b11 (P ts os Q) : awl P f29b11 Q ts os = awl P (.cond (.t 59) f29b10 .skip) Q ts os := id rfl
def f29r12 : List AI := [⟨none, (.load 49 3 true (.t 1))⟩, ⟨none, (.call (some 50) 57 [(.v (.k (.c (.int .i64 15)))), (.v (.k (.c (.int .i64 0))))])⟩, ⟨none, (.call (some 51) 37 [(.t 49), (.t 50)])⟩, ⟨none, (.build 52 [(.bool false), (.int .i64 0)] [(0, (1, (.v (.k (.c (.bool true))))))])⟩, ⟨none, (.eqAgg 53 true [.bool, .int] (.t 51) (.t 52))⟩, ⟨none, (.mov 54 (.t 53))⟩, ⟨(some (54, false)), (.load 55 3 true (.t 1))⟩, ⟨(some (54, false)), (.call (some 56) 57 [(.v (.k (.c (.int .i64 15)))), (.v (.k (.c (.int .i64 1))))])⟩, ⟨(some (54, false)), (.call (some 57) 37 [(.t 55), (.t 56)])⟩, ⟨(some (54, false)), (.field 58 0 1 false (.t 57))⟩, ⟨none, (.pick 59 (.t 54) (.v (.k (.c (.bool true)))) (.t 58))⟩]
theorem uf29r12 : type_of% @f29r12.eq_1 := id @f29r12.eq_1
def f29b13 : AQ := (.seq (.draw f29r12 [[], [], [0, 1, 1], [], [2, 3], [4, 2], [5], [5, 5], [6, 7, 7, 5], [8, 5], [5, 9]]) f29b11)
theorem uf29b13 (P ts os Q) : awl P f29b13 Q ts os = awl P (.seq (.draw f29r12 [[], [], [0, 1, 1], [], [2, 3], [4, 2], [5], [5, 5], [6, 7, 7, 5], [8, 5], [5, 9]]) f29b11) Q ts os := id rfl
def f29b14 : AQ := (.seq f29b13 f29b8)
theorem uf29b14 (P ts os Q) : awl P f29b14 Q ts os = awl P (.seq f29b13 f29b8) Q ts os := id rfl
def f29r15 : List AI := [⟨none, (.mov 0 (.v (.k (.c (.bool false)))))⟩]
def f29b16 : AQ := (.seq (.region f29r15) .ret)
def f29b17 : AQ := (.cond (.t 48) f29b16 .skip)
theorem uf29b17 (P ts os Q) : awl P f29b17 Q ts os = awl P (.cond (.t 48) f29b16 .skip) Q ts os := id rfl
def f29r18 : List AI := [⟨none, (.mov 39 (.t 5))⟩, ⟨none, (.bin 40 .neq (.t 39) (.v (.k (.c (.int .i64 1)))))⟩, ⟨none, (.mov 41 (.t 40))⟩, ⟨(some (41, false)), (.mov 42 (.t 6))⟩, ⟨(some (41, false)), (.bin 43 .neq (.t 42) (.v (.k (.c (.int .i64 0)))))⟩, ⟨none, (.pick 44 (.t 41) (.v (.k (.c (.bool true)))) (.t 43))⟩, ⟨none, (.mov 45 (.t 44))⟩, ⟨(some (45, false)), (.mov 46 (.t 8))⟩, ⟨(some (45, false)), (.bin 47 .neq (.t 46) (.v (.k (.c (.int .i64 11)))))⟩, ⟨none, (.pick 48 (.t 45) (.v (.k (.c (.bool true)))) (.t 47))⟩]
theorem uf29r18 : type_of% @f29r18.eq_1 := id @f29r18.eq_1
def f29b19 : AQ := (.seq (.region f29r18) f29b17)
theorem uf29b19 (P ts os Q) : awl P f29b19 Q ts os = awl P (.seq (.region f29r18) f29b17) Q ts os := id rfl
def f29b20 : AQ := (.seq f29b19 f29b14)
theorem uf29b20 (P ts os Q) : awl P f29b20 Q ts os = awl P (.seq f29b19 f29b14) Q ts os := id rfl
def f29r21 : List AI := [⟨none, (.call (some 33) 56 [(.v (.k (.c (.int .i64 1))))])⟩, ⟨none, (.bslice 34 41 3 [(.int .i64 0), (.int .i64 0), (.list 0 (some true) [])] 1 [(0, (.t 33))])⟩, ⟨none, (.call (some 35) 54 [(.v (.k (.c (.int .i64 3)))), (.t 34)])⟩, ⟨none, (.call (some 36) 31 [(.t 35)])⟩, ⟨none, (.mov 32 (.t 36))⟩, ⟨none, (.extr 37 (.t 32) 0)⟩, ⟨none, (.extr 38 (.t 32) 1)⟩, ⟨none, (.mov 7 (.t 37))⟩, ⟨none, (.mov 8 (.t 38))⟩]
theorem uf29r21 : type_of% @f29r21.eq_1 := id @f29r21.eq_1
def f29b22 : AQ := (.seq (.region f29r21) f29b20)
theorem uf29b22 (P ts os Q) : awl P f29b22 Q ts os = awl P (.seq (.region f29r21) f29b20) Q ts os := id rfl
def f29r23 : List AI := [⟨none, (.load 28 3 true (.t 1))⟩, ⟨none, (.call (some 29) 31 [(.t 28)])⟩, ⟨none, (.mov 27 (.t 29))⟩, ⟨none, (.extr 30 (.t 27) 0)⟩, ⟨none, (.extr 31 (.t 27) 1)⟩, ⟨none, (.mov 5 (.t 30))⟩, ⟨none, (.mov 6 (.t 31))⟩]
theorem uf29r23 : type_of% @f29r23.eq_1 := id @f29r23.eq_1
def f29b24 : AQ := (.seq (.region f29r23) f29b22)
theorem uf29b24 (P ts os Q) : awl P f29b24 Q ts os = awl P (.seq (.region f29r23) f29b22) Q ts os := id rfl
def f29r25 : List AI := [⟨none, (.call (some 23) 55 [(.v (.k (.c (.int .i64 0))))])⟩, ⟨none, (.call (some 24) 55 [(.v (.k (.c (.int .i64 0))))])⟩, ⟨none, (.bslice 25 41 3 [(.int .i64 0), (.int .i64 0), (.list 0 (some true) [])] 2 [(0, (.t 23)), (1, (.t 24))])⟩, ⟨none, (.call (some 26) 54 [(.v (.k (.c (.int .i64 11)))), (.t 25)])⟩, ⟨none, (.alloc 4 41 [(.int .i64 0), (.int .i64 0), (.list 0 (some true) [])])⟩, ⟨none, (.store 3 (.t 4) (.t 26))⟩]
theorem uf29r25 : type_of% @f29r25.eq_1 := id @f29r25.eq_1
def f29b26 : AQ := (.seq (.region f29r25) f29b24)
theorem uf29b26 (P ts os Q) : awl P f29b26 Q ts os = awl P (.seq (.region f29r25) f29b24) Q ts os := id rfl
def f29r27 : List AI := [⟨none, (.call (some 18) 55 [(.v (.k (.c (.int .i64 17))))])⟩, ⟨none, (.call (some 19) 55 [(.v (.k (.c (.int .i64 0))))])⟩, ⟨none, (.call (some 20) 56 [(.v (.k (.c (.int .i64 3))))])⟩, ⟨none, (.bslice 21 41 3 [(.int .i64 0), (.int .i64 0), (.list 0 (some true) [])] 3 [(0, (.t 18)), (1, (.t 19)), (2, (.t 20))])⟩, ⟨none, (.call (some 22) 54 [(.v (.k (.c (.int .i64 6)))), (.t 21)])⟩, ⟨none, (.alloc 3 41 [(.int .i64 0), (.int .i64 0), (.list 0 (some true) [])])⟩, ⟨none, (.store 3 (.t 3) (.t 22))⟩]
theorem uf29r27 : type_of% @f29r27.eq_1 := id @f29r27.eq_1
def f29b28 : AQ := (.seq (.region f29r27) f29b26)
theorem uf29b28 (P ts os Q) : awl P f29b28 Q ts os = awl P (.seq (.region f29r27) f29b26) Q ts os := id rfl
def f29r29 : List AI := [⟨none, (.call (some 13) 55 [(.v (.k (.c (.int .i64 17))))])⟩, ⟨none, (.call (some 14) 56 [(.v (.k (.c (.int .i64 3))))])⟩, ⟨none, (.call (some 15) 56 [(.v (.k (.c (.int .i64 3))))])⟩, ⟨none, (.bslice 16 41 3 [(.int .i64 0), (.int .i64 0), (.list 0 (some true) [])] 3 [(0, (.t 13)), (1, (.t 14)), (2, (.t 15))])⟩, ⟨none, (.call (some 17) 54 [(.v (.k (.c (.int .i64 6)))), (.t 16)])⟩, ⟨none, (.alloc 2 41 [(.int .i64 0), (.int .i64 0), (.list 0 (some true) [])])⟩, ⟨none, (.store 3 (.t 2) (.t 17))⟩]
theorem uf29r29 : type_of% @f29r29.eq_1 := id @f29r29.eq_1
def f29b30 : AQ := (.seq (.region f29r29) f29b28)
theorem uf29b30 (P ts os Q) : awl P f29b30 Q ts os = awl P (.seq (.region f29r29) f29b28) Q ts os := id rfl
def f29r31 : List AI := [⟨none, (.call (some 9) 55 [(.v (.k (.c (.int .i64 15))))])⟩, ⟨none, (.call (some 10) 55 [(.v (.k (.c (.int .i64 18))))])⟩, ⟨none, (.bslice 11 41 3 [(.int .i64 0), (.int .i64 0), (.list 0 (some true) [])] 2 [(0, (.t 9)), (1, (.t 10))])⟩, ⟨none, (.call (some 12) 54 [(.v (.k (.c (.int .i64 4)))), (.t 11)])⟩, ⟨none, (.alloc 1 41 [(.int .i64 0), (.int .i64 0), (.list 0 (some true) [])])⟩, ⟨none, (.store 3 (.t 1) (.t 12))⟩]
theorem uf29r31 : type_of% @f29r31.eq_1 := id @f29r31.eq_1
def f29b32 : AQ := (.seq (.region f29r31) f29b30)
theorem uf29b32 (P ts os Q) : awl P f29b32 Q ts os = awl P (.seq (.region f29r31) f29b30) Q ts os := id rfl
def f29r33 : List AI := [⟨none, (.mov 0 (.v (.k (.c (.bool false)))))⟩]
theorem uf29r33 : type_of% @f29r33.eq_1 := id @f29r33.eq_1
def f29b34 : AQ := (.seq (.region f29r33) f29b32)
theorem uf29b34 (P ts os Q) : awl P f29b34 Q ts os = awl P (.seq (.region f29r33) f29b32) Q ts os := id rfl
def f29 : AQ := f29b34
theorem uf29 (P ts os Q) : awl P f29 Q ts os = awl P f29b34 Q ts os := id rfl
theorem hf29 : cFunc Try.prog 29 = some ⟨95, f29.erase, [(RX.t 0)]⟩ := by kernel_rfl
theorem okf29 : f29.ok = true := by kernel_rfl
def f30r1 : List AI := [⟨none, (.load 3 3 true (.t 1))⟩, ⟨none, (.call (some 4) 58 [(.t 3), (.v (.k (.c (.int .i64 100)))), (.v (.k (.c (.int .i64 20))))])⟩, ⟨none, (.bin 5 .geq (.t 4) (.v (.k (.c (.int .i64 0)))))⟩, ⟨none, (.mov 2 (.t 5))⟩]
theorem uf30r1 : type_of% @f30r1.eq_1 := id @f30r1.eq_1
def f30b2 : AQ := (.seq (.region f30r1) .ret)
theorem uf30b2 (P ts os Q) : awl P f30b2 Q ts os = awl P (.seq (.region f30r1) .ret) Q ts os := id rfl
def f30r3 : List AI := [⟨none, (.box 1 41 (.t 0))⟩, ⟨none, (.mov 2 (.v (.k (.c (.bool false)))))⟩]
theorem uf30r3 : type_of% @f30r3.eq_1 := id @f30r3.eq_1
def f30b4 : AQ := (.seq (.region f30r3) f30b2)
theorem uf30b4 (P ts os Q) : awl P f30b4 Q ts os = awl P (.seq (.region f30r3) f30b2) Q ts os := id rfl
def f30 : AQ := f30b4
theorem uf30 (P ts os Q) : awl P f30 Q ts os = awl P f30b4 Q ts os := id rfl
theorem hf30 : cFunc Try.prog 30 = some ⟨6, f30.erase, [(RX.t 2)]⟩ := by kernel_rfl
theorem okf30 : f30.ok = true := by kernel_rfl
def f31r1 : List AI := [⟨none, (.load 7 3 true (.t 1))⟩, ⟨none, (.call (some 8) 60 [(.t 7)])⟩, ⟨none, (.extr 9 (.t 8) 0)⟩, ⟨none, (.extr 10 (.t 8) 1)⟩, ⟨none, (.mov 2 (.t 9))⟩, ⟨none, (.mov 3 (.t 10))⟩]
theorem uf31r1 : type_of% @f31r1.eq_1 := id @f31r1.eq_1
def f31b2 : AQ := (.seq (.region f31r1) .ret)
theorem uf31b2 (P ts os Q) : awl P f31b2 Q ts os = awl P (.seq (.region f31r1) .ret) Q ts os := id rfl
def f31r3 : List AI := [⟨none, (.mov 2 (.v (.k (.c (.int .i64 0)))))⟩, ⟨none, (.mov 3 (.v (.k (.c (.int .i64 6)))))⟩]
theorem uf31r3 : type_of% @f31r3.eq_1 := id @f31r3.eq_1
def f31b4 : AQ := (.seq (.region f31r3) .ret)
theorem uf31b4 (P ts os Q) : awl P f31b4 Q ts os = awl P (.seq (.region f31r3) .ret) Q ts os := id rfl
def f31b5 : AQ := (.cond (.t 6) f31b4 .skip)
theorem uf31b5 (P ts os Q) : awl P f31b5 Q ts os = awl P (.cond (.t 6) f31b4 .skip) Q ts os := id rfl
def f31r6 : List AI := [⟨none, (.load 4 3 true (.t 1))⟩, ⟨none, (.call (some 5) 59 [(.t 4), (.v (.k (.c (.int .i64 1))))])⟩, ⟨none, (.bin 6 .gtr (.t 5) (.v (.k (.c (.int .i64 60)))))⟩]
theorem uf31r6 : type_of% @f31r6.eq_1 := id @f31r6.eq_1
def f31b7 : AQ := (.seq (.region f31r6) f31b5)
theorem uf31b7 (P ts os Q) : awl P f31b7 Q ts os = awl P (.seq (.region f31r6) f31b5) Q ts os := id rfl
def f31b8 : AQ := (.seq f31b7 f31b2)
theorem uf31b8 (P ts os Q) : awl P f31b8 Q ts os = awl P (.seq f31b7 f31b2) Q ts os := id rfl
def f31r9 : List AI := [⟨none, (.box 1 41 (.t 0))⟩, ⟨none, (.mov 2 (.v (.k (.c (.int .i64 0)))))⟩, ⟨none, (.mov 3 (.v (.k (.c (.int .i64 0)))))⟩]
theorem uf31r9 : type_of% @f31r9.eq_1 := id @f31r9.eq_1
def f31b10 : AQ := (.seq (.region f31r9) f31b8)
theorem uf31b10 (P ts os Q) : awl P f31b10 Q ts os = awl P (.seq (.region f31r9) f31b8) Q ts os := id rfl
def f31 : AQ := f31b10
theorem uf31 (P ts os Q) : awl P f31 Q ts os = awl P f31b10 Q ts os := id rfl
theorem hf31 : cFunc Try.prog 31 = some ⟨11, f31.erase, [(RX.t 2), (RX.t 3)]⟩ := by kernel_rfl
theorem okf31 : f31.ok = true := by kernel_rfl
def f32r1 : List AI := [⟨none, (.load 7 3 true (.t 1))⟩, ⟨none, (.call (some 8) 61 [(.t 7)])⟩, ⟨none, (.extr 9 (.t 8) 0)⟩, ⟨none, (.extr 10 (.t 8) 1)⟩, ⟨none, (.mov 2 (.t 9))⟩, ⟨none, (.mov 3 (.t 10))⟩]
theorem uf32r1 : type_of% @f32r1.eq_1 := id @f32r1.eq_1
def f32b2 : AQ := (.seq (.region f32r1) .ret)
theorem uf32b2 (P ts os Q) : awl P f32b2 Q ts os = awl P (.seq (.region f32r1) .ret) Q ts os := id rfl
def f32r3 : List AI := [⟨none, (.mov 2 (.v (.k (.c (.int .i64 0)))))⟩, ⟨none, (.mov 3 (.v (.k (.c (.int .i64 6)))))⟩]
theorem uf32r3 : type_of% @f32r3.eq_1 := id @f32r3.eq_1
def f32b4 : AQ := (.seq (.region f32r3) .ret)
theorem uf32b4 (P ts os Q) : awl P f32b4 Q ts os = awl P (.seq (.region f32r3) .ret) Q ts os := id rfl
def f32b5 : AQ := (.cond (.t 6) f32b4 .skip)
theorem uf32b5 (P ts os Q) : awl P f32b5 Q ts os = awl P (.cond (.t 6) f32b4 .skip) Q ts os := id rfl
def f32r6 : List AI := [⟨none, (.load 4 3 true (.t 1))⟩, ⟨none, (.call (some 5) 58 [(.t 4), (.v (.k (.c (.int .i64 60)))), (.v (.k (.c (.int .i64 8))))])⟩, ⟨none, (.bin 6 .lss (.t 5) (.v (.k (.c (.int .i64 0)))))⟩]
theorem uf32r6 : type_of% @f32r6.eq_1 := id @f32r6.eq_1
def f32b7 : AQ := (.seq (.region f32r6) f32b5)
theorem uf32b7 (P ts os Q) : awl P f32b7 Q ts os = awl P (.seq (.region f32r6) f32b5) Q ts os := id rfl
def f32b8 : AQ := (.seq f32b7 f32b2)
theorem uf32b8 (P ts os Q) : awl P f32b8 Q ts os = awl P (.seq f32b7 f32b2) Q ts os := id rfl
def f32r9 : List AI := [⟨none, (.box 1 41 (.t 0))⟩, ⟨none, (.mov 2 (.v (.k (.c (.int .i64 0)))))⟩, ⟨none, (.mov 3 (.v (.k (.c (.int .i64 0)))))⟩]
theorem uf32r9 : type_of% @f32r9.eq_1 := id @f32r9.eq_1
def f32b10 : AQ := (.seq (.region f32r9) f32b8)
theorem uf32b10 (P ts os Q) : awl P f32b10 Q ts os = awl P (.seq (.region f32r9) f32b8) Q ts os := id rfl
def f32 : AQ := f32b10
theorem uf32 (P ts os Q) : awl P f32 Q ts os = awl P f32b10 Q ts os := id rfl
theorem hf32 : cFunc Try.prog 32 = some ⟨11, f32.erase, [(RX.t 2), (RX.t 3)]⟩ := by kernel_rfl
theorem okf32 : f32.ok = true := by kernel_rfl
def f33r1 : List AI := [⟨none, (.mov 2 (.v (.k (.c (.int .i64 1)))))⟩, ⟨none, (.mov 3 (.v (.k (.c (.bool true)))))⟩]
theorem uf33r1 : type_of% @f33r1.eq_1 := id @f33r1.eq_1
def f33b2 : AQ := (.seq (.region f33r1) .ret)
theorem uf33b2 (P ts os Q) : awl P f33b2 Q ts os = awl P (.seq (.region f33r1) .ret) Q ts os := id rfl
def f33r3 : List AI := [⟨none, (.mov 2 (.v (.k (.c (.int .i64 0)))))⟩, ⟨none, (.mov 3 (.v (.k (.c (.bool false)))))⟩]
theorem uf33r3 : type_of% @f33r3.eq_1 := id @f33r3.eq_1
def f33b4 : AQ := (.seq (.region f33r3) .ret)
theorem uf33b4 (P ts os Q) : awl P f33b4 Q ts os = awl P (.seq (.region f33r3) .ret) Q ts os := id rfl
def f33r5 : List AI := [⟨none, (.mov 2 (.v (.k (.c (.int .i64 0)))))⟩, ⟨none, (.mov 3 (.v (.k (.c (.bool true)))))⟩]
theorem uf33r5 : type_of% @f33r5.eq_1 := id @f33r5.eq_1
def f33b6 : AQ := (.seq (.region f33r5) .ret)
theorem uf33b6 (P ts os Q) : awl P f33b6 Q ts os = awl P (.seq (.region f33r5) .ret) Q ts os := id rfl
def f33b7 : AQ := (.cond (.t 11) f33b6 .skip)
theorem uf33b7 (P ts os Q) : awl P f33b7 Q ts os = awl P (.cond (.t 11) f33b6 .skip) Q ts os := id rfl
def f33r8 : List AI := [⟨none, (.mov 12 (.t 0))⟩, ⟨none, (.bin 13 .lss (.t 12) (.v (.k (.c (.int .i64 7)))))⟩, ⟨none, (.mov 11 (.t 13))⟩]
theorem uf33r8 : type_of% @f33r8.eq_1 := id @f33r8.eq_1
def f33b9 : AQ := (.seq (.region f33r8) f33b7)
theorem uf33b9 (P ts os Q) : awl P f33b9 Q ts os = awl P (.seq (.region f33r8) f33b7) Q ts os := id rfl
def f33b10 : AQ := (.cond (.t 4) f33b4 f33b9)
theorem uf33b10 (P ts os Q) : awl P f33b10 Q ts os = awl P (.cond (.t 4) f33b4 f33b9) Q ts os := id rfl
def f33r11 : List AI := [⟨none, (.mov 5 (.t 0))⟩, ⟨none, (.bin 6 .lss (.t 5) (.v (.k (.c (.int .i64 0)))))⟩, ⟨none, (.mov 7 (.t 6))⟩, ⟨(some (7, false)), (.mov 8 (.t 0))⟩, ⟨(some (7, false)), (.bin 9 .gtr (.t 8) (.v (.k (.c (.int .i64 19)))))⟩, ⟨none, (.pick 10 (.t 7) (.v (.k (.c (.bool true)))) (.t 9))⟩, ⟨none, (.mov 4 (.t 10))⟩]
theorem uf33r11 : type_of% @f33r11.eq_1 := id @f33r11.eq_1
def f33b12 : AQ := (.seq (.region f33r11) f33b10)
theorem uf33b12 (P ts os Q) : awl P f33b12 Q ts os = awl P (.seq (.region f33r11) f33b10) Q ts os := id rfl
def f33b13 : AQ := (.block 0 f33b12)
theorem uf33b13 (P ts os Q) : awl P f33b13 Q ts os = awl P (.block 0 f33b12) Q ts os := id rfl
def f33b14 : AQ := (.seq f33b13 f33b2)
theorem uf33b14 (P ts os Q) : awl P f33b14 Q ts os = awl P (.seq f33b13 f33b2) Q ts os := id rfl
def f33r15 : List AI := [⟨none, (.mov 2 (.v (.k (.c (.int .i64 0)))))⟩, ⟨none, (.mov 3 (.v (.k (.c (.bool false)))))⟩]
theorem uf33r15 : type_of% @f33r15.eq_1 := id @f33r15.eq_1
def f33b16 : AQ := (.seq (.region f33r15) f33b14)
theorem uf33b16 (P ts os Q) : awl P f33b16 Q ts os = awl P (.seq (.region f33r15) f33b14) Q ts os := id rfl
def f33 : AQ := f33b16
theorem uf33 (P ts os Q) : awl P f33 Q ts os = awl P f33b16 Q ts os := id rfl
theorem hf33 : cFunc Try.prog 33 = some ⟨14, f33.erase, [(RX.t 2), (RX.t 3)]⟩ := by kernel_rfl
theorem okf33 : f33.ok = true := by kernel_rfl
def f34r1 : List AI := [⟨none, (.mov 2 (.v (.k (.c (.int .i64 1)))))⟩, ⟨none, (.mov 3 (.v (.k (.c (.bool true)))))⟩]
theorem uf34r1 : type_of% @f34r1.eq_1 := id @f34r1.eq_1
def f34b2 : AQ := (.seq (.region f34r1) .ret)
theorem uf34b2 (P ts os Q) : awl P f34b2 Q ts os = awl P (.seq (.region f34r1) .ret) Q ts os := id rfl
def f34r3 : List AI := [⟨none, (.mov 2 (.v (.k (.c (.int .i64 0)))))⟩, ⟨none, (.mov 3 (.v (.k (.c (.bool true)))))⟩]
theorem uf34r3 : type_of% @f34r3.eq_1 := id @f34r3.eq_1
def f34b4 : AQ := (.seq (.region f34r3) .ret)
theorem uf34b4 (P ts os Q) : awl P f34b4 Q ts os = awl P (.seq (.region f34r3) .ret) Q ts os := id rfl
def f34b5 : AQ := (.cond (.t 11) f34b4 .skip)
theorem uf34b5 (P ts os Q) : awl P f34b5 Q ts os = awl P (.cond (.t 11) f34b4 .skip) Q ts os := id rfl
def f34r6 : List AI := [⟨none, (.mov 10 (.t 0))⟩, ⟨none, (.bin 11 .leq (.t 10) (.v (.k (.c (.int .i64 6)))))⟩]
theorem uf34r6 : type_of% @f34r6.eq_1 := id @f34r6.eq_1
def f34b7 : AQ := (.seq (.region f34r6) f34b5)
theorem uf34b7 (P ts os Q) : awl P f34b7 Q ts os = awl P (.seq (.region f34r6) f34b5) Q ts os := id rfl
def f34b8 : AQ := (.seq f34b7 f34b2)
theorem uf34b8 (P ts os Q) : awl P f34b8 Q ts os = awl P (.seq f34b7 f34b2) Q ts os := id rfl
def f34r9 : List AI := [⟨none, (.mov 2 (.v (.k (.c (.int .i64 0)))))⟩, ⟨none, (.mov 3 (.v (.k (.c (.bool false)))))⟩]
theorem uf34r9 : type_of% @f34r9.eq_1 := id @f34r9.eq_1
def f34b10 : AQ := (.seq (.region f34r9) .ret)
theorem uf34b10 (P ts os Q) : awl P f34b10 Q ts os = awl P (.seq (.region f34r9) .ret) Q ts os := id rfl
def f34b11 : AQ := (.cond (.t 9) f34b10 .skip)
theorem uf34b11 (P ts os Q) : awl P f34b11 Q ts os = awl P (.cond (.t 9) f34b10 .skip) Q ts os := id rfl
def f34r12 : List AI := [⟨none, (.mov 4 (.t 0))⟩, ⟨none, (.bin 5 .lss (.t 4) (.v (.k (.c (.int .i64 0)))))⟩, ⟨none, (.mov 6 (.t 5))⟩, ⟨(some (6, false)), (.mov 7 (.t 0))⟩, ⟨(some (6, false)), (.bin 8 .geq (.t 7) (.v (.k (.c (.int .i64 20)))))⟩, ⟨none, (.pick 9 (.t 6) (.v (.k (.c (.bool true)))) (.t 8))⟩]
theorem uf34r12 : type_of% @f34r12.eq_1 := id @f34r12.eq_1
def f34b13 : AQ := (.seq (.region f34r12) f34b11)
theorem uf34b13 (P ts os Q) : awl P f34b13 Q ts os = awl P (.seq (.region f34r12) f34b11) Q ts os := id rfl
def f34b14 : AQ := (.seq f34b13 f34b8)
theorem uf34b14 (P ts os Q) : awl P f34b14 Q ts os = awl P (.seq f34b13 f34b8) Q ts os := id rfl
def f34r15 : List AI := [⟨none, (.mov 2 (.v (.k (.c (.int .i64 0)))))⟩, ⟨none, (.mov 3 (.v (.k (.c (.bool false)))))⟩]
theorem uf34r15 : type_of% @f34r15.eq_1 := id @f34r15.eq_1
def f34b16 : AQ := (.seq (.region f34r15) f34b14)
theorem uf34b16 (P ts os Q) : awl P f34b16 Q ts os = awl P (.seq (.region f34r15) f34b14) Q ts os := id rfl
def f34 : AQ := f34b16
theorem uf34 (P ts os Q) : awl P f34 Q ts os = awl P f34b16 Q ts os := id rfl
theorem hf34 : cFunc Try.prog 34 = some ⟨12, f34.erase, [(RX.t 2), (RX.t 3)]⟩ := by kernel_rfl
theorem okf34 : f34.ok = true := by kernel_rfl
def f35r1 : List AI := [⟨none, (.load 20 1 false (.t 5))⟩, ⟨none, (.call (some 21) 50 [(.t 20)])⟩, ⟨none, (.mov 2 (.t 21))⟩]
theorem uf35r1 : type_of% @f35r1.eq_1 := id @f35r1.eq_1
def f35b2 : AQ := (.seq (.region f35r1) .ret)
theorem uf35b2 (P ts os Q) : awl P f35b2 Q ts os = awl P (.seq (.region f35r1) .ret) Q ts os := id rfl
def f35r3 : List AI := [⟨none, (.load 18 1 false (.t 5))⟩, ⟨none, (.call (some 19) 49 [(.t 18)])⟩]
theorem uf35r3 : type_of% @f35r3.eq_1 := id @f35r3.eq_1
def f35b4 : AQ := (.seq (.region f35r3) f35b2)
theorem uf35b4 (P ts os Q) : awl P f35b4 Q ts os = awl P (.seq (.region f35r3) f35b2) Q ts os := id rfl
def f35r5 : List AI := [⟨none, (.load 15 1 false (.t 6))⟩, ⟨none, (.load 16 3 true (.t 1))⟩, ⟨none, (.callv (some 17) (.t 15) [(.t 16)])⟩]
theorem uf35r5 : type_of% @f35r5.eq_1 := id @f35r5.eq_1
def f35b6 : AQ := (.swap 6 1006 (.swap 5 1005 (.seq (.region f35r5) f35b4)))
theorem uf35b6 (P ts os Q) : awl P f35b6 Q ts os = awl P (.swap 6 1006 (.swap 5 1005 (.seq (.region f35r5) f35b4))) Q ts os := id rfl
def f35r7 : List AI := [⟨none, (.mkfn 14 62 [(.t 5), (.t 6)])⟩, ⟨none, (.store 1 (.t 6) (.t 14))⟩]
theorem uf35r7 : type_of% @f35r7.eq_1 := id @f35r7.eq_1
def f35b8 : AQ := (.seq (.region f35r7) f35b6)
theorem uf35b8 (P ts os Q) : awl P f35b8 Q ts os = awl P (.seq (.region f35r7) f35b6) Q ts os := id rfl
def f35r9 : List AI := [⟨none, (.alloc 6 80 [.nilf])⟩]
theorem uf35r9 : type_of% @f35r9.eq_1 := id @f35r9.eq_1
def f35b10 : AQ := (.seq (.region f35r9) f35b8)
theorem uf35b10 (P ts os Q) : awl P f35b10 Q ts os = awl P (.seq (.region f35r9) f35b8) Q ts os := id rfl
def f35r11 : List AI := [⟨none, (.alloc 5 36 [(.list 0 (some true) [])])⟩]
theorem uf35r11 : type_of% @f35r11.eq_1 := id @f35r11.eq_1
def f35b12 : AQ := (.seq (.region f35r11) (.own 5 1000 3 1 f35b10))
theorem uf35b12 (P ts os Q) : awl P f35b12 Q ts os = awl P (.seq (.region f35r11) (.own 5 1000 3 1 f35b10)) Q ts os := id rfl
def f35r13 : List AI := [⟨none, (.nilL 2 3 1)⟩]
theorem uf35r13 : type_of% @f35r13.eq_1 := id @f35r13.eq_1
def f35b14 : AQ := (.seq (.region f35r13) .ret)
theorem uf35b14 (P ts os Q) : awl P f35b14 Q ts os = awl P (.seq (.region f35r13) .ret) Q ts os := id rfl
def f35b15 : AQ := (.cond (.t 13) f35b14 .skip)
theorem uf35b15 (P ts os Q) : awl P f35b15 Q ts os = awl P (.cond (.t 13) f35b14 .skip) Q ts os := id rfl
def f35r16 : List AI := [⟨none, (.mov 12 (.t 4))⟩, ⟨none, (.bin 13 .neq (.t 12) (.v (.k (.c (.int .i64 0)))))⟩]
theorem uf35r16 : type_of% @f35r16.eq_1 := id @f35r16.eq_1
def f35b17 : AQ := (.seq (.region f35r16) f35b15)
theorem uf35b17 (P ts os Q) : awl P f35b17 Q ts os = awl P (.seq (.region f35r16) f35b15) Q ts os := id rfl
def f35r18 : List AI := [⟨none, (.load 8 3 true (.t 1))⟩, ⟨none, (.call (some 9) 31 [(.t 8)])⟩, ⟨none, (.mov 7 (.t 9))⟩, ⟨none, (.extr 10 (.t 7) 0)⟩, ⟨none, (.extr 11 (.t 7) 1)⟩, ⟨none, (.mov 3 (.t 10))⟩, ⟨none, (.mov 4 (.t 11))⟩]
theorem uf35r18 : type_of% @f35r18.eq_1 := id @f35r18.eq_1
def f35b19 : AQ := (.seq (.region f35r18) f35b17)
theorem uf35b19 (P ts os Q) : awl P f35b19 Q ts os = awl P (.seq (.region f35r18) f35b17) Q ts os := id rfl
def f35b20 : AQ := (.seq f35b19 f35b12)
theorem uf35b20 (P ts os Q) : awl P f35b20 Q ts os = awl P (.seq f35b19 f35b12) Q ts os := id rfl
def f35r21 : List AI := [⟨none, (.box 1 41 (.t 0))⟩, ⟨none, (.nilL 2 3 1)⟩]
theorem uf35r21 : type_of% @f35r21.eq_1 := id @f35r21.eq_1
def f35b22 : AQ := (.seq (.region f35r21) f35b20)
theorem uf35b22 (P ts os Q) : awl P f35b22 Q ts os = awl P (.seq (.region f35r21) f35b20) Q ts os := id rfl
def f35 : AQ := f35b22
theorem uf35 (P ts os Q) : awl P f35 Q ts os = awl P f35b22 Q ts os := id rfl
theorem hf35 : cFunc Try.prog 35 = some ⟨22, f35.erase, [(RX.t 2)]⟩ := by kernel_rfl
theorem okf35 : f35.ok = true := by kernel_rfl
def f37r1 : List AI := [⟨none, (.load 24 2 true (.t 7))⟩, ⟨none, (.store 2 (.t 4) (.t 24))⟩]
theorem uf37r1 : type_of% @f37r1.eq_1 := id @f37r1.eq_1
def f37b2 : AQ := (.seq (.region f37r1) .ret)
theorem uf37b2 (P ts os Q) : awl P f37b2 Q ts os = awl P (.seq (.region f37r1) .ret) Q ts os := id rfl
def f37r3 : List AI := [⟨none, (.mov 18 (.t 1))⟩, ⟨none, (.build 19 [(.list 0 (some true) [])] [(0, (1, (.t 18)))])⟩, ⟨none, (.load 20 3 true (.t 2))⟩, ⟨none, (.call (some 21) 64 [(.t 19), (.t 20)])⟩, ⟨none, (.mov 17 (.t 21))⟩, ⟨none, (.extr 22 (.t 17) 0)⟩, ⟨none, (.extr 23 (.t 17) 1)⟩, ⟨none, (.alloc 7 53 [(.bool false), (.int .i64 0)])⟩, ⟨none, (.store 2 (.t 7) (.t 22))⟩, ⟨none, (.mov 8 (.t 23))⟩]
theorem uf37r3 : type_of% @f37r3.eq_1 := id @f37r3.eq_1
def f37b4 : AQ := (.seq (.region f37r3) f37b2)
theorem uf37b4 (P ts os Q) : awl P f37b4 Q ts os = awl P (.seq (.region f37r3) f37b2) Q ts os := id rfl
def f37r5 : List AI := [⟨none, (.build 16 [(.bool false), (.int .i64 0)] [])⟩, ⟨none, (.store 2 (.t 4) (.t 16))⟩]
theorem uf37r5 : type_of% @f37r5.eq_1 := id @f37r5.eq_1
def f37b6 : AQ := (.seq (.region f37r5) .ret)
theorem uf37b6 (P ts os Q) : awl P f37b6 Q ts os = awl P (.seq (.region f37r5) .ret) Q ts os := id rfl
def f37b7 : AQ := (.cond (.t 15) f37b6 .skip)
theorem uf37b7 (P ts os Q) : awl P f37b7 Q ts os = awl P (.cond (.t 15) f37b6 .skip) Q ts os := id rfl
def f37r8 : List AI := [⟨none, (.mov 14 (.t 6))⟩, ⟨none, (.bin 15 .neq (.t 14) (.v (.k (.c (.int .i64 0)))))⟩]
theorem uf37r8 : type_of% @f37r8.eq_1 := id @f37r8.eq_1
def f37b9 : AQ := (.seq (.region f37r8) f37b7)
theorem uf37b9 (P ts os Q) : awl P f37b9 Q ts os = awl P (.seq (.region f37r8) f37b7) Q ts os := id rfl
def f37r10 : List AI := [⟨none, (.load 10 3 true (.t 2))⟩, ⟨none, (.call (some 11) 31 [(.t 10)])⟩, ⟨none, (.mov 9 (.t 11))⟩, ⟨none, (.extr 12 (.t 9) 0)⟩, ⟨none, (.extr 13 (.t 9) 1)⟩, ⟨none, (.mov 5 (.t 12))⟩, ⟨none, (.mov 6 (.t 13))⟩]
theorem uf37r10 : type_of% @f37r10.eq_1 := id @f37r10.eq_1
def f37b11 : AQ := (.seq (.region f37r10) f37b9)
theorem uf37b11 (P ts os Q) : awl P f37b11 Q ts os = awl P (.seq (.region f37r10) f37b9) Q ts os := id rfl
def f37b12 : AQ := (.seq f37b11 f37b4)
theorem uf37b12 (P ts os Q) : awl P f37b12 Q ts os = awl P (.seq f37b11 f37b4) Q ts os := id rfl
def f37r13 : List AI := [⟨none, (.box 2 41 (.t 0))⟩, ⟨none, (.alloc 4 53 [(.bool false), (.int .i64 0)])⟩]
theorem uf37r13 : type_of% @f37r13.eq_1 := id @f37r13.eq_1
def f37b14 : AQ := (.seq (.region f37r13) f37b12)
theorem uf37b14 (P ts os Q) : awl P f37b14 Q ts os = awl P (.seq (.region f37r13) f37b12) Q ts os := id rfl
def f37 : AQ := f37b14
theorem uf37 (P ts os Q) : awl P f37 Q ts os = awl P f37b14 Q ts os := id rfl
theorem hf37 : cFunc Try.prog 37 = some ⟨25, f37.erase, [(RX.cell 4 2 true)]⟩ := by kernel_rfl
theorem okf37 : f37.ok = true := by kernel_rfl
def f39r1 : List AI := [⟨none, (.mov 25 (.t 8))⟩, ⟨none, (.call (some 26) 50 [(.t 25)])⟩, ⟨none, (.mov 4 (.t 26))⟩]
def f39b2 : AQ := (.seq (.region f39r1) .ret)
def f39r3 : List AI := [⟨none, (.mov 23 (.t 8))⟩, ⟨none, (.call (some 24) 49 [(.t 23)])⟩]
def f39b4 : AQ := (.seq (.region f39r3) f39b2)
def f39r5 : List AI := [⟨none, (.mov 17 (.t 1))⟩, ⟨none, (.build 18 [(.list 0 (some true) [])] [(0, (1, (.t 17)))])⟩, ⟨none, (.load 19 3 true (.t 2))⟩, ⟨none, (.call (some 20) 64 [(.t 18), (.t 19)])⟩, ⟨none, (.mov 16 (.t 20))⟩, ⟨none, (.extr 21 (.t 16) 0)⟩, ⟨none, (.extr 22 (.t 16) 1)⟩, ⟨none, (.alloc 7 53 [(.bool false), (.int .i64 0)])⟩, ⟨none, (.store 2 (.t 7) (.t 21))⟩, ⟨none, (.mov 8 (.t 22))⟩]
theorem uf39r5 : type_of% @f39r5.eq_1 := id @f39r5.eq_1
def f39b6 : AQ := (.seq (.region f39r5) f39b4)
def f39r7 : List AI := [⟨none, (.nilL 4 3 1)⟩]
theorem uf39r7 : type_of% @f39r7.eq_1 := id @f39r7.eq_1
def f39b8 : AQ := (.seq (.region f39r7) .ret)
theorem uf39b8 (P ts os Q) : awl P f39b8 Q ts os = awl P (.seq (.region f39r7) .ret) Q ts os := id rfl
def f39b9 : AQ := (.cond (.t 15) f39b8 .skip)
theorem uf39b9 (P ts os Q) : awl P f39b9 Q ts os = awl P (.cond (.t 15) f39b8 .skip) Q ts os := id rfl
def f39r10 : List AI := [⟨none, (.mov 14 (.t 6))⟩, ⟨none, (.bin 15 .neq (.t 14) (.v (.k (.c (.int .i64 0)))))⟩]
theorem uf39r10 : type_of% @f39r10.eq_1 := id @f39r10.eq_1
def f39b11 : AQ := (.seq (.region f39r10) f39b9)
theorem uf39b11 (P ts os Q) : awl P f39b11 Q ts os = awl P (.seq (.region f39r10) f39b9) Q ts os := id rfl
def f39r12 : List AI := [⟨none, (.load 10 3 true (.t 2))⟩, ⟨none, (.call (some 11) 31 [(.t 10)])⟩, ⟨none, (.mov 9 (.t 11))⟩, ⟨none, (.extr 12 (.t 9) 0)⟩, ⟨none, (.extr 13 (.t 9) 1)⟩, ⟨none, (.mov 5 (.t 12))⟩, ⟨none, (.mov 6 (.t 13))⟩]
theorem uf39r12 : type_of% @f39r12.eq_1 := id @f39r12.eq_1
def f39b13 : AQ := (.seq (.region f39r12) f39b11)
theorem uf39b13 (P ts os Q) : awl P f39b13 Q ts os = awl P (.seq (.region f39r12) f39b11) Q ts os := id rfl
def f39b14 : AQ := (.seq f39b13 f39b6)
def f39r15 : List AI := [⟨none, (.box 2 41 (.t 0))⟩, ⟨none, (.nilL 4 3 1)⟩]
theorem uf39r15 : type_of% @f39r15.eq_1 := id @f39r15.eq_1
def f39b16 : AQ := (.seq (.region f39r15) f39b14)
def f39 : AQ := f39b16
theorem hf39 : cFunc Try.prog 39 = some ⟨27, f39.erase, [(RX.t 4)]⟩ := by kernel_rfl
def f41r1 : List AI := [⟨none, (.mov 58 (.t 7))⟩, ⟨none, (.mov 6 (.t 58))⟩]
theorem uf41r1 : type_of% @f41r1.eq_1 := id @f41r1.eq_1
def f41b2 : AQ := (.seq (.region f41r1) .ret)
theorem uf41b2 (P ts os Q) : awl P f41b2 Q ts os = awl P (.seq (.region f41r1) .ret) Q ts os := id rfl
def f41r3 : List AI := [⟨none, (.mov 14 (.t 8))⟩, ⟨none, (.bin 15 .add (.t 14) (.v (.k (.c (.int .i64 1)))))⟩, ⟨none, (.mov 8 (.t 15))⟩]
theorem uf41r3 : type_of% @f41r3.eq_1 := id @f41r3.eq_1
def f41r4 : List AI := [⟨none, (.mov 51 (.t 7))⟩, ⟨none, (.mov 52 (.t 8))⟩, ⟨none, (.mov 53 (.t 1))⟩, ⟨none, (.mov 54 (.t 8))⟩, ⟨none, (.iaddr 55 2 (.t 53) (.t 54))⟩, ⟨none, (.load 56 2 true (.t 55))⟩, ⟨none, (.iaddr 57 2 (.t 51) (.t 52))⟩, ⟨none, (.store 2 (.t 57) (.t 56))⟩]
theorem uf41r4 : type_of% @f41r4.eq_1 := id @f41r4.eq_1
def f41b5 : AQ := (.cond (.t 50) (.region f41r4) .skip)
theorem uf41b5 (P ts os Q) : awl P f41b5 Q ts os = awl P (.cond (.t 50) (.region f41r4) .skip) Q ts os := id rfl
def f41r6 : List AI := [⟨none, (.mov 27 (.t 7))⟩, ⟨none, (.mov 28 (.t 8))⟩, ⟨none, (.iaddr 29 2 (.t 27) (.t 28))⟩, ⟨none, (.faddr 30 0 (.t 29))⟩, ⟨none, (.load 31 1 false (.t 30))⟩, ⟨none, (.un 32 .not (.t 31))⟩, ⟨none, (.mov 33 (.t 32))⟩, ⟨(some (33, true)), (.mov 34 (.t 8))⟩, ⟨(some (33, true)), (.mov 35 (.t 1))⟩, ⟨(some (33, true)), (.len 36 (.t 35))⟩, ⟨(some (33, true)), (.bin 37 .lss (.t 34) (.t 36))⟩, ⟨none, (.pick 38 (.t 33) (.t 37) (.v (.k (.c (.bool false)))))⟩, ⟨none, (.mov 39 (.t 38))⟩, ⟨(some (39, true)), (.mov 40 (.t 8))⟩, ⟨(some (39, true)), (.mov 41 (.t 2))⟩, ⟨(some (39, true)), (.len 42 (.t 41))⟩, ⟨(some (39, true)), (.bin 43 .lss (.t 40) (.t 42))⟩, ⟨none, (.pick 44 (.t 39) (.t 43) (.v (.k (.c (.bool false)))))⟩, ⟨none, (.mov 45 (.t 44))⟩, ⟨(some (45, true)), (.mov 46 (.t 2))⟩, ⟨(some (45, true)), (.mov 47 (.t 8))⟩, ⟨(some (45, true)), (.iaddr 48 1 (.t 46) (.t 47))⟩, ⟨(some (45, true)), (.load 49 1 false (.t 48))⟩, ⟨none, (.pick 50 (.t 45) (.t 49) (.v (.k (.c (.bool false)))))⟩]
theorem uf41r6 : type_of% @f41r6.eq_1 := id @f41r6.eq_1
def f41b7 : AQ := (.seq (.region f41r6) f41b5)
theorem uf41b7 (P ts os Q) : awl P f41b7 Q ts os = awl P (.seq (.region f41r6) f41b5) Q ts os := id rfl
def f41r8 : List AI := [⟨none, (.mov 20 (.t 7))⟩, ⟨none, (.mov 21 (.t 8))⟩, ⟨none, (.mov 22 (.t 0))⟩, ⟨none, (.mov 23 (.t 8))⟩, ⟨none, (.iaddr 24 2 (.t 22) (.t 23))⟩, ⟨none, (.load 25 2 true (.t 24))⟩, ⟨none, (.iaddr 26 2 (.t 20) (.t 21))⟩, ⟨none, (.store 2 (.t 26) (.t 25))⟩]
theorem uf41r8 : type_of% @f41r8.eq_1 := id @f41r8.eq_1
def f41b9 : AQ := (.cond (.t 19) (.region f41r8) .skip)
theorem uf41b9 (P ts os Q) : awl P f41b9 Q ts os = awl P (.cond (.t 19) (.region f41r8) .skip) Q ts os := id rfl
def f41r10 : List AI := [⟨none, (.mov 16 (.t 8))⟩, ⟨none, (.mov 17 (.t 0))⟩, ⟨none, (.len 18 (.t 17))⟩, ⟨none, (.bin 19 .lss (.t 16) (.t 18))⟩]
theorem uf41r10 : type_of% @f41r10.eq_1 := id @f41r10.eq_1
def f41b11 : AQ := (.seq (.region f41r10) f41b9)
theorem uf41b11 (P ts os Q) : awl P f41b11 Q ts os = awl P (.seq (.region f41r10) f41b9) Q ts os := id rfl
def f41b12 : AQ := (.seq f41b11 f41b7)
theorem uf41b12 (P ts os Q) : awl P f41b12 Q ts os = awl P (.seq f41b11 f41b7) Q ts os := id rfl
def f41b13 : AQ := (.block 1 f41b12)
theorem uf41b13 (P ts os Q) : awl P f41b13 Q ts os = awl P (.block 1 f41b12) Q ts os := id rfl
def f41b14 : AQ := (.seq f41b13 (.region f41r3))
theorem uf41b14 (P ts os Q) : awl P f41b14 Q ts os = awl P (.seq f41b13 (.region f41r3)) Q ts os := id rfl
def f41b15 : AQ := (.cond (.t 13) .skip (.exit 0))
theorem uf41b15 (P ts os Q) : awl P f41b15 Q ts os = awl P (.cond (.t 13) .skip (.exit 0)) Q ts os := id rfl
def f41r16 : List AI := [⟨none, (.mov 10 (.t 8))⟩, ⟨none, (.mov 11 (.t 7))⟩, ⟨none, (.len 12 (.t 11))⟩, ⟨none, (.bin 13 .lss (.t 10) (.t 12))⟩]
theorem uf41r16 : type_of% @f41r16.eq_1 := id @f41r16.eq_1
def f41b17 : AQ := (.seq (.region f41r16) f41b15)
theorem uf41b17 (P ts os Q) : awl P f41b17 Q ts os = awl P (.seq (.region f41r16) f41b15) Q ts os := id rfl
def f41b18 : AQ := (.seq f41b17 f41b14)
theorem uf41b18 (P ts os Q) : awl P f41b18 Q ts os = awl P (.seq f41b17 f41b14) Q ts os := id rfl
def f41l19 : AQ := .loop [0, 1, 2, 7, 8] [9] f41b18
theorem uf41l19 (P ts os Q) : awl P f41l19 Q ts os = awl P (.loop [0, 1, 2, 7, 8] [9] f41b18) Q ts os := id rfl
def f41b20 : AQ := (.block 0 f41l19)
theorem uf41b20 (P ts os Q) : awl P f41b20 Q ts os = awl P (.block 0 f41l19) Q ts os := id rfl
def f41r21 : List AI := [⟨none, (.mov 8 (.v (.k (.c (.int .i64 0)))))⟩]
theorem uf41r21 : type_of% @f41r21.eq_1 := id @f41r21.eq_1
def f41b22 : AQ := (.seq (.region f41r21) f41b20)
theorem uf41b22 (P ts os Q) : awl P f41b22 Q ts os = awl P (.seq (.region f41r21) f41b20) Q ts os := id rfl
def f41b23 : AQ := (.seq f41b22 f41b2)
theorem uf41b23 (P ts os Q) : awl P f41b23 Q ts os = awl P (.seq f41b22 f41b2) Q ts os := id rfl
def f41r24 : List AI := [⟨none, (.mkslice 9 53 2 16 [(.bool false), (.int .i64 0)] (.v (.k (.c (.int .i64 20)))) (.v (.k (.c (.int .i64 20)))))⟩, ⟨none, (.mov 7 (.t 9))⟩]
theorem uf41r24 : type_of% @f41r24.eq_1 := id @f41r24.eq_1
def f41b25 : AQ := (.seq (.region f41r24) f41b23)
theorem uf41b25 (P ts os Q) : awl P f41b25 Q ts os = awl P (.seq (.region f41r24) f41b23) Q ts os := id rfl
def f41r26 : List AI := [⟨none, (.nilL 6 53 2)⟩]
theorem uf41r26 : type_of% @f41r26.eq_1 := id @f41r26.eq_1
def f41b27 : AQ := (.seq (.region f41r26) f41b25)
theorem uf41b27 (P ts os Q) : awl P f41b27 Q ts os = awl P (.seq (.region f41r26) f41b25) Q ts os := id rfl
def f41 : AQ := f41b27
theorem uf41 (P ts os Q) : awl P f41 Q ts os = awl P f41b27 Q ts os := id rfl
theorem hf41 : cFunc Try.prog 41 = some ⟨59, f41.erase, [(RX.t 6)]⟩ := by kernel_rfl
theorem okf41 : f41.ok = true := by kernel_rfl
def f42r1 : List AI := [⟨none, (.mov 4 (.v (.k (.c (.bool false)))))⟩]
theorem uf42r1 : type_of% @f42r1.eq_1 := id @f42r1.eq_1
def f42b2 : AQ := (.seq (.region f42r1) .ret)
theorem uf42b2 (P ts os Q) : awl P f42b2 Q ts os = awl P (.seq (.region f42r1) .ret) Q ts os := id rfl
def f42r3 : List AI := [⟨none, (.mov 10 (.t 5))⟩, ⟨none, (.bin 11 .add (.t 10) (.v (.k (.c (.int .i64 1)))))⟩, ⟨none, (.mov 5 (.t 11))⟩]
theorem uf42r3 : type_of% @f42r3.eq_1 := id @f42r3.eq_1
def f42r4 : List AI := [⟨none, (.mov 4 (.v (.k (.c (.bool true)))))⟩]
theorem uf42r4 : type_of% @f42r4.eq_1 := id @f42r4.eq_1
def f42b5 : AQ := (.seq (.region f42r4) .ret)
theorem uf42b5 (P ts os Q) : awl P f42b5 Q ts os = awl P (.seq (.region f42r4) .ret) Q ts os := id rfl
def f42b6 : AQ := (.cond (.t 17) f42b5 .skip)
theorem uf42b6 (P ts os Q) : awl P f42b6 Q ts os = awl P (.cond (.t 17) f42b5 .skip) Q ts os := id rfl
def f42r7 : List AI := [⟨none, (.mov 12 (.t 0))⟩, ⟨none, (.mov 13 (.t 5))⟩, ⟨none, (.iaddr 14 1 (.t 12) (.t 13))⟩, ⟨none, (.load 15 1 false (.t 14))⟩, ⟨none, (.mov 16 (.t 1))⟩, ⟨none, (.bin 17 .eql (.t 15) (.t 16))⟩]
theorem uf42r7 : type_of% @f42r7.eq_1 := id @f42r7.eq_1
def f42b8 : AQ := (.seq (.region f42r7) f42b6)
theorem uf42b8 (P ts os Q) : awl P f42b8 Q ts os = awl P (.seq (.region f42r7) f42b6) Q ts os := id rfl
def f42b9 : AQ := (.block 1 f42b8)
theorem uf42b9 (P ts os Q) : awl P f42b9 Q ts os = awl P (.block 1 f42b8) Q ts os := id rfl
def f42b10 : AQ := (.seq f42b9 (.region f42r3))
theorem uf42b10 (P ts os Q) : awl P f42b10 Q ts os = awl P (.seq f42b9 (.region f42r3)) Q ts os := id rfl
def f42b11 : AQ := (.cond (.t 9) .skip (.exit 0))
theorem uf42b11 (P ts os Q) : awl P f42b11 Q ts os = awl P (.cond (.t 9) .skip (.exit 0)) Q ts os := id rfl
def f42r12 : List AI := [⟨none, (.mov 6 (.t 5))⟩, ⟨none, (.mov 7 (.t 0))⟩, ⟨none, (.len 8 (.t 7))⟩, ⟨none, (.bin 9 .lss (.t 6) (.t 8))⟩]
theorem uf42r12 : type_of% @f42r12.eq_1 := id @f42r12.eq_1
def f42b13 : AQ := (.seq (.region f42r12) f42b11)
theorem uf42b13 (P ts os Q) : awl P f42b13 Q ts os = awl P (.seq (.region f42r12) f42b11) Q ts os := id rfl
def f42b14 : AQ := (.seq f42b13 f42b10)
theorem uf42b14 (P ts os Q) : awl P f42b14 Q ts os = awl P (.seq f42b13 f42b10) Q ts os := id rfl
def f42l15 : AQ := .loop [0, 1, 5] [] f42b14
theorem uf42l15 (P ts os Q) : awl P f42l15 Q ts os = awl P (.loop [0, 1, 5] [] f42b14) Q ts os := id rfl
def f42b16 : AQ := (.block 0 f42l15)
theorem uf42b16 (P ts os Q) : awl P f42b16 Q ts os = awl P (.block 0 f42l15) Q ts os := id rfl
def f42r17 : List AI := [⟨none, (.mov 5 (.v (.k (.c (.int .i64 0)))))⟩]
theorem uf42r17 : type_of% @f42r17.eq_1 := id @f42r17.eq_1
def f42b18 : AQ := (.seq (.region f42r17) f42b16)
theorem uf42b18 (P ts os Q) : awl P f42b18 Q ts os = awl P (.seq (.region f42r17) f42b16) Q ts os := id rfl
def f42b19 : AQ := (.seq f42b18 f42b2)
theorem uf42b19 (P ts os Q) : awl P f42b19 Q ts os = awl P (.seq f42b18 f42b2) Q ts os := id rfl
def f42r20 : List AI := [⟨none, (.mov 4 (.v (.k (.c (.bool false)))))⟩]
theorem uf42r20 : type_of% @f42r20.eq_1 := id @f42r20.eq_1
def f42b21 : AQ := (.seq (.region f42r20) f42b19)
theorem uf42b21 (P ts os Q) : awl P f42b21 Q ts os = awl P (.seq (.region f42r20) f42b19) Q ts os := id rfl
def f42 : AQ := f42b21
theorem uf42 (P ts os Q) : awl P f42 Q ts os = awl P f42b21 Q ts os := id rfl
theorem hf42 : cFunc Try.prog 42 = some ⟨18, f42.erase, [(RX.t 4)]⟩ := by kernel_rfl
theorem okf42 : f42.ok = true := by kernel_rfl
def f54r1 : List AI := [⟨none, (.mov 5 (.t 0))⟩, ⟨none, (.mov 6 (.t 1))⟩, ⟨none, (.build 7 [(.int .i64 0), (.int .i64 0), (.list 0 (some true) [])] [(0, (1, (.t 5))), (2, (1, (.t 6)))])⟩, ⟨none, (.store 3 (.t 4) (.t 7))⟩]
theorem uf54r1 : type_of% @f54r1.eq_1 := id @f54r1.eq_1
def f54b2 : AQ := (.seq (.region f54r1) .ret)
theorem uf54b2 (P ts os Q) : awl P f54b2 Q ts os = awl P (.seq (.region f54r1) .ret) Q ts os := id rfl
def f54r3 : List AI := [⟨none, (.alloc 4 41 [(.int .i64 0), (.int .i64 0), (.list 0 (some true) [])])⟩]
theorem uf54r3 : type_of% @f54r3.eq_1 := id @f54r3.eq_1
def f54b4 : AQ := (.seq (.region f54r3) f54b2)
theorem uf54b4 (P ts os Q) : awl P f54b4 Q ts os = awl P (.seq (.region f54r3) f54b2) Q ts os := id rfl
def f54 : AQ := f54b4
theorem uf54 (P ts os Q) : awl P f54 Q ts os = awl P f54b4 Q ts os := id rfl
theorem hf54 : cFunc Try.prog 54 = some ⟨8, f54.erase, [(RX.cell 4 3 true)]⟩ := by kernel_rfl
theorem okf54 : f54.ok = true := by kernel_rfl
def f55r1 : List AI := [⟨none, (.mov 3 (.t 0))⟩, ⟨none, (.build 4 [(.int .i64 0), (.int .i64 0), (.list 0 (some true) [])] [(0, (1, (.v (.k (.c (.int .i64 2)))))), (1, (1, (.t 3)))])⟩, ⟨none, (.store 3 (.t 2) (.t 4))⟩]
theorem uf55r1 : type_of% @f55r1.eq_1 := id @f55r1.eq_1
def f55b2 : AQ := (.seq (.region f55r1) .ret)
theorem uf55b2 (P ts os Q) : awl P f55b2 Q ts os = awl P (.seq (.region f55r1) .ret) Q ts os := id rfl
def f55r3 : List AI := [⟨none, (.alloc 2 41 [(.int .i64 0), (.int .i64 0), (.list 0 (some true) [])])⟩]
theorem uf55r3 : type_of% @f55r3.eq_1 := id @f55r3.eq_1
def f55b4 : AQ := (.seq (.region f55r3) f55b2)
theorem uf55b4 (P ts os Q) : awl P f55b4 Q ts os = awl P (.seq (.region f55r3) f55b2) Q ts os := id rfl
def f55 : AQ := f55b4
theorem uf55 (P ts os Q) : awl P f55 Q ts os = awl P f55b4 Q ts os := id rfl
theorem hf55 : cFunc Try.prog 55 = some ⟨5, f55.erase, [(RX.cell 2 3 true)]⟩ := by kernel_rfl
theorem okf55 : f55.ok = true := by kernel_rfl
def f56r1 : List AI := [⟨none, (.mov 3 (.t 0))⟩, ⟨none, (.build 4 [(.int .i64 0), (.int .i64 0), (.list 0 (some true) [])] [(1, (1, (.t 3)))])⟩, ⟨none, (.store 3 (.t 2) (.t 4))⟩]
theorem uf56r1 : type_of% @f56r1.eq_1 := id @f56r1.eq_1
def f56b2 : AQ := (.seq (.region f56r1) .ret)
theorem uf56b2 (P ts os Q) : awl P f56b2 Q ts os = awl P (.seq (.region f56r1) .ret) Q ts os := id rfl
def f56r3 : List AI := [⟨none, (.alloc 2 41 [(.int .i64 0), (.int .i64 0), (.list 0 (some true) [])])⟩]
theorem uf56r3 : type_of% @f56r3.eq_1 := id @f56r3.eq_1
def f56b4 : AQ := (.seq (.region f56r3) f56b2)
theorem uf56b4 (P ts os Q) : awl P f56b4 Q ts os = awl P (.seq (.region f56r3) f56b2) Q ts os := id rfl
def f56 : AQ := f56b4
theorem uf56 (P ts os Q) : awl P f56 Q ts os = awl P f56b4 Q ts os := id rfl
theorem hf56 : cFunc Try.prog 56 = some ⟨5, f56.erase, [(RX.cell 2 3 true)]⟩ := by kernel_rfl
theorem okf56 : f56.ok = true := by kernel_rfl
def f57r1 : List AI := [⟨none, (.mov 12 (.t 5))⟩, ⟨none, (.mov 4 (.t 12))⟩]
theorem uf57r1 : type_of% @f57r1.eq_1 := id @f57r1.eq_1
def f57b2 : AQ := (.seq (.region f57r1) .ret)
theorem uf57b2 (P ts os Q) : awl P f57b2 Q ts os = awl P (.seq (.region f57r1) .ret) Q ts os := id rfl
def f57r3 : List AI := [⟨none, (.mov 7 (.t 5))⟩, ⟨none, (.mov 8 (.t 0))⟩, ⟨none, (.mov 9 (.t 1))⟩, ⟨none, (.build 10 [(.bool false), (.int .i64 0)] [(0, (1, (.v (.k (.c (.bool true)))))), (1, (1, (.t 9)))])⟩, ⟨none, (.iaddr 11 2 (.t 7) (.t 8))⟩, ⟨none, (.store 2 (.t 11) (.t 10))⟩]
theorem uf57r3 : type_of% @f57r3.eq_1 := id @f57r3.eq_1
def f57b4 : AQ := (.seq (.region f57r3) f57b2)
theorem uf57b4 (P ts os Q) : awl P f57b4 Q ts os = awl P (.seq (.region f57r3) f57b2) Q ts os := id rfl
def f57r5 : List AI := [⟨none, (.mkslice 6 53 2 16 [(.bool false), (.int .i64 0)] (.v (.k (.c (.int .i64 20)))) (.v (.k (.c (.int .i64 20)))))⟩, ⟨none, (.mov 5 (.t 6))⟩]
theorem uf57r5 : type_of% @f57r5.eq_1 := id @f57r5.eq_1
def f57b6 : AQ := (.seq (.region f57r5) f57b4)
theorem uf57b6 (P ts os Q) : awl P f57b6 Q ts os = awl P (.seq (.region f57r5) f57b4) Q ts os := id rfl
def f57r7 : List AI := [⟨none, (.nilL 4 53 2)⟩]
theorem uf57r7 : type_of% @f57r7.eq_1 := id @f57r7.eq_1
def f57b8 : AQ := (.seq (.region f57r7) f57b6)
theorem uf57b8 (P ts os Q) : awl P f57b8 Q ts os = awl P (.seq (.region f57r7) f57b6) Q ts os := id rfl
def f57 : AQ := f57b8
theorem uf57 (P ts os Q) : awl P f57 Q ts os = awl P f57b8 Q ts os := id rfl
theorem hf57 : cFunc Try.prog 57 = some ⟨13, f57.erase, [(RX.t 4)]⟩ := by kernel_rfl
theorem okf57 : f57.ok = true := by kernel_rfl
def f58r1 : List AI := [⟨none, (.mov 32 (.t 1))⟩, ⟨none, (.mov 6 (.t 32))⟩]
theorem uf58r1 : type_of% @f58r1.eq_1 := id @f58r1.eq_1
def f58b2 : AQ := (.seq (.region f58r1) .ret)
theorem uf58b2 (P ts os Q) : awl P f58b2 Q ts os = awl P (.seq (.region f58r1) .ret) Q ts os := id rfl
def f58r3 : List AI := [⟨none, (.mov 21 (.t 7))⟩, ⟨none, (.bin 22 .add (.t 21) (.v (.k (.c (.int .i64 1)))))⟩, ⟨none, (.mov 7 (.t 22))⟩]
theorem uf58r3 : type_of% @f58r3.eq_1 := id @f58r3.eq_1
def f58r4 : List AI := [⟨none, (.faddr 23 2 (.t 3))⟩, ⟨none, (.load 24 1 false (.t 23))⟩, ⟨none, (.mov 25 (.t 7))⟩, ⟨none, (.iaddr 26 3 (.t 24) (.t 25))⟩, ⟨none, (.load 27 3 true (.t 26))⟩, ⟨none, (.mov 28 (.t 1))⟩, ⟨none, (.mov 29 (.t 2))⟩, ⟨none, (.bin 30 .sub (.t 29) (.v (.k (.c (.int .i64 1)))))⟩, ⟨none, (.call (some 31) 58 [(.t 27), (.t 28), (.t 30)])⟩, ⟨none, (.mov 1 (.t 31))⟩]
theorem uf58r4 : type_of% @f58r4.eq_1 := id @f58r4.eq_1
def f58b5 : AQ := (.block 1 (.region f58r4))
theorem uf58b5 (P ts os Q) : awl P f58b5 Q ts os = awl P (.block 1 (.region f58r4)) Q ts os := id rfl
def f58b6 : AQ := (.seq f58b5 (.region f58r3))
theorem uf58b6 (P ts os Q) : awl P f58b6 Q ts os = awl P (.seq f58b5 (.region f58r3)) Q ts os := id rfl
def f58b7 : AQ := (.cond (.t 20) .skip (.exit 0))
theorem uf58b7 (P ts os Q) : awl P f58b7 Q ts os = awl P (.cond (.t 20) .skip (.exit 0)) Q ts os := id rfl
def f58r8 : List AI := [⟨none, (.mov 12 (.t 7))⟩, ⟨none, (.faddr 13 2 (.t 3))⟩, ⟨none, (.load 14 1 false (.t 13))⟩, ⟨none, (.len 15 (.t 14))⟩, ⟨none, (.bin 16 .lss (.t 12) (.t 15))⟩, ⟨none, (.mov 17 (.t 16))⟩, ⟨(some (17, true)), (.mov 18 (.t 1))⟩, ⟨(some (17, true)), (.bin 19 .geq (.t 18) (.v (.k (.c (.int .i64 0)))))⟩, ⟨none, (.pick 20 (.t 17) (.t 19) (.v (.k (.c (.bool false)))))⟩]
theorem uf58r8 : type_of% @f58r8.eq_1 := id @f58r8.eq_1
def f58b9 : AQ := (.seq (.region f58r8) f58b7)
theorem uf58b9 (P ts os Q) : awl P f58b9 Q ts os = awl P (.seq (.region f58r8) f58b7) Q ts os := id rfl
def f58b10 : AQ := (.seq f58b9 f58b6)
theorem uf58b10 (P ts os Q) : awl P f58b10 Q ts os = awl P (.seq f58b9 f58b6) Q ts os := id rfl
def f58l11 : AQ := .loop [1, 2, 3, 7] [3] f58b10
theorem uf58l11 (P ts os Q) : awl P f58l11 Q ts os = awl P (.loop [1, 2, 3, 7] [3] f58b10) Q ts os := id rfl
def f58b12 : AQ := (.block 0 f58l11)
theorem uf58b12 (P ts os Q) : awl P f58b12 Q ts os = awl P (.block 0 f58l11) Q ts os := id rfl
def f58r13 : List AI := [⟨none, (.mov 7 (.v (.k (.c (.int .i64 0)))))⟩]
theorem uf58r13 : type_of% @f58r13.eq_1 := id @f58r13.eq_1
def f58b14 : AQ := (.seq (.region f58r13) f58b12)
theorem uf58b14 (P ts os Q) : awl P f58b14 Q ts os = awl P (.seq (.region f58r13) f58b12) Q ts os := id rfl
def f58b15 : AQ := (.seq f58b14 f58b2)
theorem uf58b15 (P ts os Q) : awl P f58b15 Q ts os = awl P (.seq f58b14 f58b2) Q ts os := id rfl
def f58r16 : List AI := [⟨none, (.mov 6 (.v (.k (.c (.int .i64 (-1))))))⟩]
theorem uf58r16 : type_of% @f58r16.eq_1 := id @f58r16.eq_1
def f58b17 : AQ := (.seq (.region f58r16) .ret)
theorem uf58b17 (P ts os Q) : awl P f58b17 Q ts os = awl P (.seq (.region f58r16) .ret) Q ts os := id rfl
def f58b18 : AQ := (.cond (.t 11) f58b17 .skip)
theorem uf58b18 (P ts os Q) : awl P f58b18 Q ts os = awl P (.cond (.t 11) f58b17 .skip) Q ts os := id rfl
def f58r19 : List AI := [⟨none, (.mov 10 (.t 2))⟩, ⟨none, (.bin 11 .lss (.t 10) (.v (.k (.c (.int .i64 1)))))⟩]
theorem uf58r19 : type_of% @f58r19.eq_1 := id @f58r19.eq_1
def f58b20 : AQ := (.seq (.region f58r19) f58b18)
theorem uf58b20 (P ts os Q) : awl P f58b20 Q ts os = awl P (.seq (.region f58r19) f58b18) Q ts os := id rfl
def f58b21 : AQ := (.seq f58b20 f58b15)
theorem uf58b21 (P ts os Q) : awl P f58b21 Q ts os = awl P (.seq f58b20 f58b15) Q ts os := id rfl
def f58r22 : List AI := [⟨none, (.mov 8 (.t 1))⟩, ⟨none, (.bin 9 .sub (.t 8) (.v (.k (.c (.int .i64 1)))))⟩, ⟨none, (.mov 1 (.t 9))⟩]
theorem uf58r22 : type_of% @f58r22.eq_1 := id @f58r22.eq_1
def f58b23 : AQ := (.seq (.region f58r22) f58b21)
theorem uf58b23 (P ts os Q) : awl P f58b23 Q ts os = awl P (.seq (.region f58r22) f58b21) Q ts os := id rfl
def f58r24 : List AI := [⟨none, (.box 3 41 (.t 0))⟩, ⟨none, (.mov 6 (.v (.k (.c (.int .i64 0)))))⟩]
theorem uf58r24 : type_of% @f58r24.eq_1 := id @f58r24.eq_1
def f58b25 : AQ := (.seq (.region f58r24) f58b23)
theorem uf58b25 (P ts os Q) : awl P f58b25 Q ts os = awl P (.seq (.region f58r24) f58b23) Q ts os := id rfl
def f58 : AQ := f58b25
theorem uf58 (P ts os Q) : awl P f58 Q ts os = awl P f58b25 Q ts os := id rfl
theorem hf58 : cFunc Try.prog 58 = some ⟨33, f58.erase, [(RX.t 6)]⟩ := by kernel_rfl
theorem okf58 : f58.ok = true := by kernel_rfl
def f59r1 : List AI := [⟨none, (.mov 26 (.t 5))⟩, ⟨none, (.mov 4 (.t 26))⟩]
theorem uf59r1 : type_of% @f59r1.eq_1 := id @f59r1.eq_1
def f59b2 : AQ := (.seq (.region f59r1) .ret)
theorem uf59b2 (P ts os Q) : awl P f59b2 Q ts os = awl P (.seq (.region f59r1) .ret) Q ts os := id rfl
def f59r3 : List AI := [⟨none, (.bin 25 .add (.t 13) (.v (.k (.c (.int .i64 1)))))⟩, ⟨none, (.mov 13 (.t 25))⟩]
theorem uf59r3 : type_of% @f59r3.eq_1 := id @f59r3.eq_1
def f59b4 : AQ := (.cond (.t 24) (.exit 0) .skip)
theorem uf59b4 (P ts os Q) : awl P f59b4 Q ts os = awl P (.cond (.t 24) (.exit 0) .skip) Q ts os := id rfl
def f59r5 : List AI := [⟨none, (.mov 23 (.t 5))⟩, ⟨none, (.bin 24 .gtr (.t 23) (.v (.k (.c (.int .i64 60)))))⟩]
theorem uf59r5 : type_of% @f59r5.eq_1 := id @f59r5.eq_1
def f59b6 : AQ := (.seq (.region f59r5) f59b4)
theorem uf59b6 (P ts os Q) : awl P f59b6 Q ts os = awl P (.seq (.region f59r5) f59b4) Q ts os := id rfl
def f59r7 : List AI := [⟨none, (.mov 17 (.t 5))⟩, ⟨none, (.load 18 3 true (.t 7))⟩, ⟨none, (.mov 19 (.t 1))⟩, ⟨none, (.bin 20 .add (.t 19) (.v (.k (.c (.int .i64 1)))))⟩, ⟨none, (.call (some 21) 59 [(.t 18), (.t 20)])⟩, ⟨none, (.bin 22 .add (.t 17) (.t 21))⟩, ⟨none, (.mov 5 (.t 22))⟩]
theorem uf59r7 : type_of% @f59r7.eq_1 := id @f59r7.eq_1
def f59b8 : AQ := (.seq (.region f59r7) f59b6)
theorem uf59b8 (P ts os Q) : awl P f59b8 Q ts os = awl P (.seq (.region f59r7) f59b6) Q ts os := id rfl
def f59r9 : List AI := [⟨none, (.iaddr 15 3 (.t 11) (.t 13))⟩, ⟨none, (.load 16 3 true (.t 15))⟩, ⟨none, (.alloc 7 41 [(.int .i64 0), (.int .i64 0), (.list 0 (some true) [])])⟩, ⟨none, (.store 3 (.t 7) (.t 16))⟩]
theorem uf59r9 : type_of% @f59r9.eq_1 := id @f59r9.eq_1
def f59b10 : AQ := (.seq (.region f59r9) f59b8)
theorem uf59b10 (P ts os Q) : awl P f59b10 Q ts os = awl P (.seq (.region f59r9) f59b8) Q ts os := id rfl
def f59b11 : AQ := (.block 1 f59b10)
theorem uf59b11 (P ts os Q) : awl P f59b11 Q ts os = awl P (.block 1 f59b10) Q ts os := id rfl
def f59b12 : AQ := (.seq f59b11 (.region f59r3))
theorem uf59b12 (P ts os Q) : awl P f59b12 Q ts os = awl P (.seq f59b11 (.region f59r3)) Q ts os := id rfl
def f59b13 : AQ := (.cond (.t 14) .skip (.exit 0))
theorem uf59b13 (P ts os Q) : awl P f59b13 Q ts os = awl P (.cond (.t 14) .skip (.exit 0)) Q ts os := id rfl
def f59b14 : AQ := (.seq f59b13 f59b12)
theorem uf59b14 (P ts os Q) : awl P f59b14 Q ts os = awl P (.seq f59b13 f59b12) Q ts os := id rfl
def f59r15 : List AI := [⟨none, (.bin 14 .lss (.t 13) (.t 12))⟩]
theorem uf59r15 : type_of% @f59r15.eq_1 := id @f59r15.eq_1
def f59b16 : AQ := (.seq (.region f59r15) f59b14)
theorem uf59b16 (P ts os Q) : awl P f59b16 Q ts os = awl P (.seq (.region f59r15) f59b14) Q ts os := id rfl
def f59l17 : AQ := .loop [1, 5, 11, 12, 13] [] f59b16
theorem uf59l17 (P ts os Q) : awl P f59l17 Q ts os = awl P (.loop [1, 5, 11, 12, 13] [] f59b16) Q ts os := id rfl
def f59b18 : AQ := (.block 0 f59l17)
theorem uf59b18 (P ts os Q) : awl P f59b18 Q ts os = awl P (.block 0 f59l17) Q ts os := id rfl
def f59r19 : List AI := [⟨none, (.faddr 10 2 (.t 2))⟩, ⟨none, (.load 11 1 false (.t 10))⟩, ⟨none, (.len 12 (.t 11))⟩, ⟨none, (.mov 13 (.v (.k (.c (.int .i64 0)))))⟩]
theorem uf59r19 : type_of% @f59r19.eq_1 := id @f59r19.eq_1
def f59b20 : AQ := (.seq (.region f59r19) f59b18)
theorem uf59b20 (P ts os Q) : awl P f59b20 Q ts os = awl P (.seq (.region f59r19) f59b18) Q ts os := id rfl
def f59b21 : AQ := (.seq f59b20 f59b2)
theorem uf59b21 (P ts os Q) : awl P f59b21 Q ts os = awl P (.seq f59b20 f59b2) Q ts os := id rfl
def f59r22 : List AI := [⟨none, (.mov 5 (.v (.k (.c (.int .i64 1)))))⟩]
theorem uf59r22 : type_of% @f59r22.eq_1 := id @f59r22.eq_1
def f59b23 : AQ := (.seq (.region f59r22) f59b21)
theorem uf59b23 (P ts os Q) : awl P f59b23 Q ts os = awl P (.seq (.region f59r22) f59b21) Q ts os := id rfl
def f59r24 : List AI := [⟨none, (.mov 4 (.v (.k (.c (.int .i64 61)))))⟩]
theorem uf59r24 : type_of% @f59r24.eq_1 := id @f59r24.eq_1
def f59b25 : AQ := (.seq (.region f59r24) .ret)
theorem uf59b25 (P ts os Q) : awl P f59b25 Q ts os = awl P (.seq (.region f59r24) .ret) Q ts os := id rfl
def f59b26 : AQ := (.cond (.t 9) f59b25 .skip)
theorem uf59b26 (P ts os Q) : awl P f59b26 Q ts os = awl P (.cond (.t 9) f59b25 .skip) Q ts os := id rfl
def f59r27 : List AI := [⟨none, (.mov 8 (.t 1))⟩, ⟨none, (.bin 9 .gtr (.t 8) (.v (.k (.c (.int .i64 8)))))⟩]
theorem uf59r27 : type_of% @f59r27.eq_1 := id @f59r27.eq_1
def f59b28 : AQ := (.seq (.region f59r27) f59b26)
theorem uf59b28 (P ts os Q) : awl P f59b28 Q ts os = awl P (.seq (.region f59r27) f59b26) Q ts os := id rfl
def f59b29 : AQ := (.seq f59b28 f59b23)
theorem uf59b29 (P ts os Q) : awl P f59b29 Q ts os = awl P (.seq f59b28 f59b23) Q ts os := id rfl
def f59r30 : List AI := [⟨none, (.box 2 41 (.t 0))⟩, ⟨none, (.mov 4 (.v (.k (.c (.int .i64 0)))))⟩]
theorem uf59r30 : type_of% @f59r30.eq_1 := id @f59r30.eq_1
def f59b31 : AQ := (.seq (.region f59r30) f59b29)
theorem uf59b31 (P ts os Q) : awl P f59b31 Q ts os = awl P (.seq (.region f59r30) f59b29) Q ts os := id rfl
def f59 : AQ := f59b31
theorem uf59 (P ts os Q) : awl P f59 Q ts os = awl P f59b31 Q ts os := id rfl
theorem hf59 : cFunc Try.prog 59 = some ⟨27, f59.erase, [(RX.t 4)]⟩ := by kernel_rfl
theorem okf59 : f59.ok = true := by kernel_rfl
def f60r1 : List AI := [⟨none, (.faddr 111 1 (.t 9))⟩, ⟨none, (.load 112 1 false (.t 111))⟩, ⟨none, (.mov 2 (.t 112))⟩, ⟨none, (.mov 3 (.v (.k (.c (.int .i64 0)))))⟩]
theorem uf60r1 : type_of% @f60r1.eq_1 := id @f60r1.eq_1
def f60b2 : AQ := (.seq (.region f60r1) .ret)
theorem uf60b2 (P ts os Q) : awl P f60b2 Q ts os = awl P (.seq (.region f60r1) .ret) Q ts os := id rfl
def f60r3 : List AI := [⟨none, (.mov 110 (.t 10))⟩, ⟨none, (.mov 2 (.t 110))⟩, ⟨none, (.mov 3 (.v (.k (.c (.int .i64 0)))))⟩]
theorem uf60r3 : type_of% @f60r3.eq_1 := id @f60r3.eq_1
def f60b4 : AQ := (.seq (.region f60r3) .ret)
theorem uf60b4 (P ts os Q) : awl P f60b4 Q ts os = awl P (.seq (.region f60r3) .ret) Q ts os := id rfl
def f60b5 : AQ := (.cond (.t 109) f60b4 .skip)
theorem uf60b5 (P ts os Q) : awl P f60b5 Q ts os = awl P (.cond (.t 109) f60b4 .skip) Q ts os := id rfl
def f60r6 : List AI := [⟨none, (.faddr 107 1 (.t 9))⟩, ⟨none, (.load 108 1 false (.t 107))⟩, ⟨none, (.bin 109 .eql (.t 108) (.v (.k (.c (.int .i64 (-1))))))⟩]
theorem uf60r6 : type_of% @f60r6.eq_1 := id @f60r6.eq_1
def f60b7 : AQ := (.seq (.region f60r6) f60b5)
theorem uf60b7 (P ts os Q) : awl P f60b7 Q ts os = awl P (.seq (.region f60r6) f60b5) Q ts os := id rfl
def f60b8 : AQ := (.seq f60b7 f60b2)
theorem uf60b8 (P ts os Q) : awl P f60b8 Q ts os = awl P (.seq f60b7 f60b2) Q ts os := id rfl
def f60r9 : List AI := [⟨none, (.bin 106 .add (.t 82) (.v (.k (.c (.int .i64 1)))))⟩, ⟨none, (.mov 82 (.t 106))⟩]
theorem uf60r9 : type_of% @f60r9.eq_1 := id @f60r9.eq_1
def f60r10 : List AI := [⟨none, (.mov 2 (.v (.k (.c (.int .i64 0)))))⟩, ⟨none, (.mov 3 (.v (.k (.c (.int .i64 11)))))⟩]
theorem uf60r10 : type_of% @f60r10.eq_1 := id @f60r10.eq_1
def f60b11 : AQ := (.seq (.region f60r10) .ret)
theorem uf60b11 (P ts os Q) : awl P f60b11 Q ts os = awl P (.seq (.region f60r10) .ret) Q ts os := id rfl
def f60b12 : AQ := (.cond (.t 105) f60b11 .skip)
theorem uf60b12 (P ts os Q) : awl P f60b12 Q ts os = awl P (.cond (.t 105) f60b11 .skip) Q ts os := id rfl
def f60r13 : List AI := [⟨none, (.mov 100 (.t 4))⟩, ⟨none, (.mov 101 (.t 11))⟩, ⟨none, (.iaddr 102 1 (.t 100) (.t 101))⟩, ⟨none, (.load 103 1 false (.t 102))⟩, ⟨none, (.mov 104 (.t 12))⟩, ⟨none, (.bin 105 .neq (.t 103) (.t 104))⟩]
theorem uf60r13 : type_of% @f60r13.eq_1 := id @f60r13.eq_1
def f60b14 : AQ := (.seq (.region f60r13) f60b12)
theorem uf60b14 (P ts os Q) : awl P f60b14 Q ts os = awl P (.seq (.region f60r13) f60b12) Q ts os := id rfl
def f60r15 : List AI := [⟨none, (.mov 99 (.t 10))⟩, ⟨none, (.mov 12 (.t 99))⟩]
theorem uf60r15 : type_of% @f60r15.eq_1 := id @f60r15.eq_1
def f60b16 : AQ := (.cond (.t 98) (.region f60r15) .skip)
theorem uf60b16 (P ts os Q) : awl P f60b16 Q ts os = awl P (.cond (.t 98) (.region f60r15) .skip) Q ts os := id rfl
def f60r17 : List AI := [⟨none, (.mov 97 (.t 12))⟩, ⟨none, (.bin 98 .eql (.t 97) (.v (.k (.c (.int .i64 (-1))))))⟩]
theorem uf60r17 : type_of% @f60r17.eq_1 := id @f60r17.eq_1
def f60b18 : AQ := (.seq (.region f60r17) f60b16)
theorem uf60b18 (P ts os Q) : awl P f60b18 Q ts os = awl P (.seq (.region f60r17) f60b16) Q ts os := id rfl
def f60b19 : AQ := (.seq f60b18 f60b14)
theorem uf60b19 (P ts os Q) : awl P f60b19 Q ts os = awl P (.seq f60b18 f60b14) Q ts os := id rfl
def f60r20 : List AI := [⟨none, (.mov 93 (.t 4))⟩, ⟨none, (.mov 94 (.t 11))⟩, ⟨none, (.iaddr 95 1 (.t 93) (.t 94))⟩, ⟨none, (.load 96 1 false (.t 95))⟩, ⟨none, (.mov 10 (.t 96))⟩]
theorem uf60r20 : type_of% @f60r20.eq_1 := id @f60r20.eq_1
def f60b21 : AQ := (.cond (.t 92) (.region f60r20) .skip)
theorem uf60b21 (P ts os Q) : awl P f60b21 Q ts os = awl P (.cond (.t 92) (.region f60r20) .skip) Q ts os := id rfl
def f60r22 : List AI := [⟨none, (.mov 87 (.t 12))⟩, ⟨none, (.bin 88 .eql (.t 87) (.v (.k (.c (.int .i64 (-1))))))⟩, ⟨none, (.mov 89 (.t 88))⟩, ⟨(some (89, true)), (.mov 90 (.t 10))⟩, ⟨(some (89, true)), (.bin 91 .eql (.t 90) (.v (.k (.c (.int .i64 (-1))))))⟩, ⟨none, (.pick 92 (.t 89) (.t 91) (.v (.k (.c (.bool false)))))⟩]
theorem uf60r22 : type_of% @f60r22.eq_1 := id @f60r22.eq_1
def f60b23 : AQ := (.seq (.region f60r22) f60b21)
theorem uf60b23 (P ts os Q) : awl P f60b23 Q ts os = awl P (.seq (.region f60r22) f60b21) Q ts os := id rfl
def f60b24 : AQ := (.seq f60b23 f60b19)
theorem uf60b24 (P ts os Q) : awl P f60b24 Q ts os = awl P (.seq f60b23 f60b19) Q ts os := id rfl
def f60r25 : List AI := [⟨none, (.mov 84 (.t 82))⟩, ⟨none, (.iaddr 85 1 (.t 80) (.t 82))⟩, ⟨none, (.load 86 1 false (.t 85))⟩, ⟨none, (.mov 11 (.t 84))⟩, ⟨none, (.mov 12 (.t 86))⟩]
theorem uf60r25 : type_of% @f60r25.eq_1 := id @f60r25.eq_1
def f60b26 : AQ := (.seq (.region f60r25) f60b24)
theorem uf60b26 (P ts os Q) : awl P f60b26 Q ts os = awl P (.seq (.region f60r25) f60b24) Q ts os := id rfl
def f60b27 : AQ := (.block 4 f60b26)
theorem uf60b27 (P ts os Q) : awl P f60b27 Q ts os = awl P (.block 4 f60b26) Q ts os := id rfl
def f60b28 : AQ := (.seq f60b27 (.region f60r9))
theorem uf60b28 (P ts os Q) : awl P f60b28 Q ts os = awl P (.seq f60b27 (.region f60r9)) Q ts os := id rfl
def f60b29 : AQ := (.cond (.t 83) .skip (.exit 3))
theorem uf60b29 (P ts os Q) : awl P f60b29 Q ts os = awl P (.cond (.t 83) .skip (.exit 3)) Q ts os := id rfl
def f60b30 : AQ := (.seq f60b29 f60b28)
theorem uf60b30 (P ts os Q) : awl P f60b30 Q ts os = awl P (.seq f60b29 f60b28) Q ts os := id rfl
def f60r31 : List AI := [⟨none, (.bin 83 .lss (.t 82) (.t 81))⟩]
theorem uf60r31 : type_of% @f60r31.eq_1 := id @f60r31.eq_1
def f60b32 : AQ := (.seq (.region f60r31) f60b30)
theorem uf60b32 (P ts os Q) : awl P f60b32 Q ts os = awl P (.seq (.region f60r31) f60b30) Q ts os := id rfl
def f60l33 : AQ := .loop [4, 9, 10, 80, 81, 82] [9, 16, 67, 68000, 68001, 68002] f60b32
theorem uf60l33 (P ts os Q) : awl P f60l33 Q ts os = awl P (.loop [4, 9, 10, 80, 81, 82] [9, 16, 67, 68000, 68001, 68002] f60b32) Q ts os := id rfl
def f60b34 : AQ := (.block 3 f60l33)
theorem uf60b34 (P ts os Q) : awl P f60b34 Q ts os = awl P (.block 3 f60l33) Q ts os := id rfl
def f60r35 : List AI := [⟨none, (.faddr 79 0 (.t 9))⟩, ⟨none, (.load 80 1 false (.t 79))⟩, ⟨none, (.len 81 (.t 80))⟩, ⟨none, (.mov 82 (.v (.k (.c (.int .i64 0)))))⟩]
theorem uf60r35 : type_of% @f60r35.eq_1 := id @f60r35.eq_1
def f60b36 : AQ := (.seq (.region f60r35) f60b34)
theorem uf60b36 (P ts os Q) : awl P f60b36 Q ts os = awl P (.seq (.region f60r35) f60b34) Q ts os := id rfl
def f60b37 : AQ := (.seq f60b36 f60b8)
theorem uf60b37 (P ts os Q) : awl P f60b37 Q ts os = awl P (.seq f60b36 f60b8) Q ts os := id rfl
def f60r38 : List AI := [⟨none, (.mov 10 (.v (.k (.c (.int .i64 (-1))))))⟩]
theorem uf60r38 : type_of% @f60r38.eq_1 := id @f60r38.eq_1
def f60b39 : AQ := (.seq (.region f60r38) f60b37)
theorem uf60b39 (P ts os Q) : awl P f60b39 Q ts os = awl P (.seq (.region f60r38) f60b37) Q ts os := id rfl
def f60r40 : List AI := [⟨none, (.mov 2 (.v (.k (.c (.int .i64 0)))))⟩, ⟨none, (.mov 3 (.v (.k (.c (.int .i64 2)))))⟩]
theorem uf60r40 : type_of% @f60r40.eq_1 := id @f60r40.eq_1
def f60b41 : AQ := (.seq (.region f60r40) .ret)
theorem uf60b41 (P ts os Q) : awl P f60b41 Q ts os = awl P (.seq (.region f60r40) .ret) Q ts os := id rfl
def f60b42 : AQ := (.cond (.t 78) f60b41 .skip)
theorem uf60b42 (P ts os Q) : awl P f60b42 Q ts os = awl P (.cond (.t 78) f60b41 .skip) Q ts os := id rfl
def f60r43 : List AI := [⟨none, (.mov 68 (.t 4))⟩, ⟨none, (.len 69 (.t 68))⟩, ⟨none, (.faddr 70 0 (.t 9))⟩, ⟨none, (.load 71 1 false (.t 70))⟩, ⟨none, (.len 72 (.t 71))⟩, ⟨none, (.bin 73 .neq (.t 69) (.t 72))⟩, ⟨none, (.mov 74 (.t 73))⟩, ⟨(some (74, false)), (.faddr 75 1 (.t 1))⟩, ⟨(some (74, false)), (.load 76 1 false (.t 75))⟩, ⟨(some (74, false)), (.bin 77 .neq (.t 76) (.v (.k (.c (.int .i64 0)))))⟩, ⟨none, (.pick 78 (.t 74) (.v (.k (.c (.bool true)))) (.t 77))⟩]
theorem uf60r43 : type_of% @f60r43.eq_1 := id @f60r43.eq_1
def f60b44 : AQ := (.seq (.region f60r43) f60b42)
theorem uf60b44 (P ts os Q) : awl P f60b44 Q ts os = awl P (.seq (.region f60r43) f60b42) Q ts os := id rfl
def f60b45 : AQ := (.seq f60b44 f60b39)
theorem uf60b45 (P ts os Q) : awl P f60b45 Q ts os = awl P (.seq f60b44 f60b39) Q ts os := id rfl
def f60r46 : List AI := [⟨none, (.faddr 65 0 (.t 1))⟩, ⟨none, (.load 66 1 false (.t 65))⟩, ⟨none, (.call (some 67) 72 [(.t 66)])⟩, ⟨none, (.alloc 9 92 [(.list 0 (some true) []), (.int .i64 0)])⟩, ⟨none, (.store 2 (.t 9) (.t 67))⟩]
theorem uf60r46 : type_of% @f60r46.eq_1 := id @f60r46.eq_1
def f60b47 : AQ := (.seq (.region f60r46) f60b45)
theorem uf60b47 (P ts os Q) : awl P f60b47 Q ts os = awl P (.seq (.region f60r46) f60b45) Q ts os := id rfl
def f60r48 : List AI := [⟨none, (.mov 2 (.v (.k (.c (.int .i64 0)))))⟩, ⟨none, (.mov 3 (.v (.k (.c (.int .i64 1)))))⟩]
theorem uf60r48 : type_of% @f60r48.eq_1 := id @f60r48.eq_1
def f60b49 : AQ := (.seq (.region f60r48) .ret)
theorem uf60b49 (P ts os Q) : awl P f60b49 Q ts os = awl P (.seq (.region f60r48) .ret) Q ts os := id rfl
def f60r50 : List AI := [⟨none, (.load 61 3 true (.t 1))⟩, ⟨none, (.call (some 62) 71 [(.t 61)])⟩, ⟨none, (.extr 63 (.t 62) 0)⟩, ⟨none, (.extr 64 (.t 62) 1)⟩, ⟨none, (.mov 2 (.t 63))⟩, ⟨none, (.mov 3 (.t 64))⟩]
theorem uf60r50 : type_of% @f60r50.eq_1 := id @f60r50.eq_1
def f60b51 : AQ := (.seq (.region f60r50) .ret)
theorem uf60b51 (P ts os Q) : awl P f60b51 Q ts os = awl P (.seq (.region f60r50) .ret) Q ts os := id rfl
def f60b52 : AQ := (.cond (.t 47) f60b51 .skip)
theorem uf60b52 (P ts os Q) : awl P f60b52 Q ts os = awl P (.cond (.t 47) f60b51 .skip) Q ts os := id rfl
def f60r53 : List AI := [⟨none, (.faddr 48 0 (.t 1))⟩, ⟨none, (.load 49 1 false (.t 48))⟩, ⟨none, (.bin 50 .eql (.t 49) (.v (.k (.c (.int .i64 0)))))⟩, ⟨none, (.mov 51 (.t 50))⟩, ⟨(some (51, false)), (.faddr 52 0 (.t 1))⟩, ⟨(some (51, false)), (.load 53 1 false (.t 52))⟩, ⟨(some (51, false)), (.bin 54 .eql (.t 53) (.v (.k (.c (.int .i64 1)))))⟩, ⟨none, (.pick 55 (.t 51) (.v (.k (.c (.bool true)))) (.t 54))⟩, ⟨none, (.mov 56 (.t 55))⟩, ⟨(some (56, false)), (.faddr 57 0 (.t 1))⟩, ⟨(some (56, false)), (.load 58 1 false (.t 57))⟩, ⟨(some (56, false)), (.bin 59 .eql (.t 58) (.v (.k (.c (.int .i64 2)))))⟩, ⟨none, (.pick 60 (.t 56) (.v (.k (.c (.bool true)))) (.t 59))⟩, ⟨none, (.mov 47 (.t 60))⟩]
theorem uf60r53 : type_of% @f60r53.eq_1 := id @f60r53.eq_1
def f60b54 : AQ := (.seq (.region f60r53) f60b52)
theorem uf60b54 (P ts os Q) : awl P f60b54 Q ts os = awl P (.seq (.region f60r53) f60b52) Q ts os := id rfl
def f60b55 : AQ := (.cond (.t 38) f60b49 f60b54)
theorem uf60b55 (P ts os Q) : awl P f60b55 Q ts os = awl P (.cond (.t 38) f60b49 f60b54) Q ts os := id rfl
def f60r56 : List AI := [⟨none, (.faddr 39 0 (.t 1))⟩, ⟨none, (.load 40 1 false (.t 39))⟩, ⟨none, (.bin 41 .lss (.t 40) (.v (.k (.c (.int .i64 0)))))⟩, ⟨none, (.mov 42 (.t 41))⟩, ⟨(some (42, false)), (.faddr 43 0 (.t 1))⟩, ⟨(some (42, false)), (.load 44 1 false (.t 43))⟩, ⟨(some (42, false)), (.bin 45 .gtr (.t 44) (.v (.k (.c (.int .i64 13)))))⟩, ⟨none, (.pick 46 (.t 42) (.v (.k (.c (.bool true)))) (.t 45))⟩, ⟨none, (.mov 38 (.t 46))⟩]
theorem uf60r56 : type_of% @f60r56.eq_1 := id @f60r56.eq_1
def f60b57 : AQ := (.seq (.region f60r56) f60b55)
theorem uf60b57 (P ts os Q) : awl P f60b57 Q ts os = awl P (.seq (.region f60r56) f60b55) Q ts os := id rfl
def f60b58 : AQ := (.block 2 f60b57)
theorem uf60b58 (P ts os Q) : awl P f60b58 Q ts os = awl P (.block 2 f60b57) Q ts os := id rfl
def f60b59 : AQ := (.seq f60b58 f60b47)
theorem uf60b59 (P ts os Q) : awl P f60b59 Q ts os = awl P (.seq f60b58 f60b47) Q ts os := id rfl
def f60r60 : List AI := [⟨none, (.bin 37 .add (.t 20) (.v (.k (.c (.int .i64 1)))))⟩, ⟨none, (.mov 20 (.t 37))⟩]
theorem uf60r60 : type_of% @f60r60.eq_1 := id @f60r60.eq_1
def f60r61 : List AI := [⟨none, (.mov 33 (.t 4))⟩, ⟨none, (.mov 34 (.t 5))⟩, ⟨none, (.mov 35 (.t 7))⟩, ⟨none, (.iaddr 36 1 (.t 33) (.t 34))⟩, ⟨none, (.store 1 (.t 36) (.t 35))⟩]
theorem uf60r61 : type_of% @f60r61.eq_1 := id @f60r61.eq_1
def f60r62 : List AI := [⟨none, (.mov 32 (.t 8))⟩, ⟨none, (.mov 2 (.v (.k (.c (.int .i64 0)))))⟩, ⟨none, (.mov 3 (.t 32))⟩]
theorem uf60r62 : type_of% @f60r62.eq_1 := id @f60r62.eq_1
def f60b63 : AQ := (.seq (.region f60r62) .ret)
theorem uf60b63 (P ts os Q) : awl P f60b63 Q ts os = awl P (.seq (.region f60r62) .ret) Q ts os := id rfl
def f60b64 : AQ := (.cond (.t 31) f60b63 .skip)
theorem uf60b64 (P ts os Q) : awl P f60b64 Q ts os = awl P (.cond (.t 31) f60b63 .skip) Q ts os := id rfl
def f60r65 : List AI := [⟨none, (.mov 30 (.t 8))⟩, ⟨none, (.bin 31 .neq (.t 30) (.v (.k (.c (.int .i64 0)))))⟩]
theorem uf60r65 : type_of% @f60r65.eq_1 := id @f60r65.eq_1
def f60b66 : AQ := (.seq (.region f60r65) f60b64)
theorem uf60b66 (P ts os Q) : awl P f60b66 Q ts os = awl P (.seq (.region f60r65) f60b64) Q ts os := id rfl
def f60b67 : AQ := (.seq f60b66 (.region f60r61))
theorem uf60b67 (P ts os Q) : awl P f60b67 Q ts os = awl P (.seq f60b66 (.region f60r61)) Q ts os := id rfl
def f60r68 : List AI := [⟨none, (.load 26 3 true (.t 6))⟩, ⟨none, (.call (some 27) 60 [(.t 26)])⟩, ⟨none, (.mov 25 (.t 27))⟩, ⟨none, (.extr 28 (.t 25) 0)⟩, ⟨none, (.extr 29 (.t 25) 1)⟩, ⟨none, (.mov 7 (.t 28))⟩, ⟨none, (.mov 8 (.t 29))⟩]
theorem uf60r68 : type_of% @f60r68.eq_1 := id @f60r68.eq_1
def f60b69 : AQ := (.seq (.region f60r68) f60b67)
theorem uf60b69 (P ts os Q) : awl P f60b69 Q ts os = awl P (.seq (.region f60r68) f60b67) Q ts os := id rfl
def f60r70 : List AI := [⟨none, (.mov 22 (.t 20))⟩, ⟨none, (.iaddr 23 3 (.t 18) (.t 20))⟩, ⟨none, (.load 24 3 true (.t 23))⟩, ⟨none, (.alloc 6 41 [(.int .i64 0), (.int .i64 0), (.list 0 (some true) [])])⟩, ⟨none, (.mov 5 (.t 22))⟩, ⟨none, (.store 3 (.t 6) (.t 24))⟩]
theorem uf60r70 : type_of% @f60r70.eq_1 := id @f60r70.eq_1
def f60b71 : AQ := (.seq (.region f60r70) f60b69)
theorem uf60b71 (P ts os Q) : awl P f60b71 Q ts os = awl P (.seq (.region f60r70) f60b69) Q ts os := id rfl
def f60b72 : AQ := (.block 1 f60b71)
theorem uf60b72 (P ts os Q) : awl P f60b72 Q ts os = awl P (.block 1 f60b71) Q ts os := id rfl
def f60b73 : AQ := (.seq f60b72 (.region f60r60))
theorem uf60b73 (P ts os Q) : awl P f60b73 Q ts os = awl P (.seq f60b72 (.region f60r60)) Q ts os := id rfl
def f60b74 : AQ := (.cond (.t 21) .skip (.exit 0))
theorem uf60b74 (P ts os Q) : awl P f60b74 Q ts os = awl P (.cond (.t 21) .skip (.exit 0)) Q ts os := id rfl
def f60b75 : AQ := (.seq f60b74 f60b73)
theorem uf60b75 (P ts os Q) : awl P f60b75 Q ts os = awl P (.seq f60b74 f60b73) Q ts os := id rfl
def f60r76 : List AI := [⟨none, (.bin 21 .lss (.t 20) (.t 19))⟩]
theorem uf60r76 : type_of% @f60r76.eq_1 := id @f60r76.eq_1
def f60b77 : AQ := (.seq (.region f60r76) f60b75)
theorem uf60b77 (P ts os Q) : awl P f60b77 Q ts os = awl P (.seq (.region f60r76) f60b75) Q ts os := id rfl
def f60l78 : AQ := .loop [1, 4, 18, 19, 20] [1, 16] f60b77
theorem uf60l78 (P ts os Q) : awl P f60l78 Q ts os = awl P (.loop [1, 4, 18, 19, 20] [1, 16] f60b77) Q ts os := id rfl
def f60b79 : AQ := (.block 0 f60l78)
theorem uf60b79 (P ts os Q) : awl P f60b79 Q ts os = awl P (.block 0 f60l78) Q ts os := id rfl
def f60r80 : List AI := [⟨none, (.faddr 17 2 (.t 1))⟩, ⟨none, (.load 18 1 false (.t 17))⟩, ⟨none, (.len 19 (.t 18))⟩, ⟨none, (.mov 20 (.v (.k (.c (.int .i64 0)))))⟩]
theorem uf60r80 : type_of% @f60r80.eq_1 := id @f60r80.eq_1
def f60b81 : AQ := (.seq (.region f60r80) f60b79)
theorem uf60b81 (P ts os Q) : awl P f60b81 Q ts os = awl P (.seq (.region f60r80) f60b79) Q ts os := id rfl
def f60b82 : AQ := (.seq f60b81 f60b59)
theorem uf60b82 (P ts os Q) : awl P f60b82 Q ts os = awl P (.seq f60b81 f60b59) Q ts os := id rfl
def f60r83 : List AI := [⟨none, (.faddr 13 2 (.t 1))⟩, ⟨none, (.load 14 1 false (.t 13))⟩, ⟨none, (.len 15 (.t 14))⟩, ⟨none, (.mkslice 16 3 1 8 [(.int .i64 0)] (.t 15) (.t 15))⟩, ⟨none, (.mov 4 (.t 16))⟩]
theorem uf60r83 : type_of% @f60r83.eq_1 := id @f60r83.eq_1
def f60b84 : AQ := (.seq (.region f60r83) f60b82)
theorem uf60b84 (P ts os Q) : awl P f60b84 Q ts os = awl P (.seq (.region f60r83) f60b82) Q ts os := id rfl
def f60r85 : List AI := [⟨none, (.box 1 41 (.t 0))⟩, ⟨none, (.mov 2 (.v (.k (.c (.int .i64 0)))))⟩, ⟨none, (.mov 3 (.v (.k (.c (.int .i64 0)))))⟩]
theorem uf60r85 : type_of% @f60r85.eq_1 := id @f60r85.eq_1
def f60b86 : AQ := (.seq (.region f60r85) f60b84)
theorem uf60b86 (P ts os Q) : awl P f60b86 Q ts os = awl P (.seq (.region f60r85) f60b84) Q ts os := id rfl
def f60 : AQ := f60b86
theorem uf60 (P ts os Q) : awl P f60 Q ts os = awl P f60b86 Q ts os := id rfl
theorem hf60 : cFunc Try.prog 60 = some ⟨113, f60.erase, [(RX.t 2), (RX.t 3)]⟩ := by kernel_rfl
theorem okf60 : f60.ok = true := by kernel_rfl
def f61r1 : List AI := [⟨none, (.mov 74 (.t 9))⟩, ⟨none, (.mov 2 (.t 74))⟩, ⟨none, (.mov 3 (.v (.k (.c (.int .i64 0)))))⟩]
theorem uf61r1 : type_of% @f61r1.eq_1 := id @f61r1.eq_1
def f61b2 : AQ := (.seq (.region f61r1) .ret)
theorem uf61b2 (P ts os Q) : awl P f61b2 Q ts os = awl P (.seq (.region f61r1) .ret) Q ts os := id rfl
def f61r3 : List AI := [⟨none, (.mov 2 (.v (.k (.c (.int .i64 0)))))⟩, ⟨none, (.mov 3 (.v (.k (.c (.int .i64 11)))))⟩]
theorem uf61r3 : type_of% @f61r3.eq_1 := id @f61r3.eq_1
def f61b4 : AQ := (.seq (.region f61r3) .ret)
theorem uf61b4 (P ts os Q) : awl P f61b4 Q ts os = awl P (.seq (.region f61r3) .ret) Q ts os := id rfl
def f61b5 : AQ := (.cond (.t 73) f61b4 .skip)
theorem uf61b5 (P ts os Q) : awl P f61b5 Q ts os = awl P (.cond (.t 73) f61b4 .skip) Q ts os := id rfl
def f61r6 : List AI := [⟨none, (.mov 72 (.t 10))⟩, ⟨none, (.un 73 .not (.t 72))⟩]
theorem uf61r6 : type_of% @f61r6.eq_1 := id @f61r6.eq_1
def f61b7 : AQ := (.seq (.region f61r6) f61b5)
theorem uf61b7 (P ts os Q) : awl P f61b7 Q ts os = awl P (.seq (.region f61r6) f61b5) Q ts os := id rfl
def f61b8 : AQ := (.seq f61b7 f61b2)
theorem uf61b8 (P ts os Q) : awl P f61b8 Q ts os = awl P (.seq f61b7 f61b2) Q ts os := id rfl
def f61r9 : List AI := [⟨none, (.faddr 66 0 (.t 1))⟩, ⟨none, (.load 67 1 false (.t 66))⟩, ⟨none, (.mov 68 (.t 4))⟩, ⟨none, (.call (some 69) 75 [(.t 67), (.t 68)])⟩, ⟨none, (.mov 65 (.t 69))⟩, ⟨none, (.extr 70 (.t 65) 0)⟩, ⟨none, (.extr 71 (.t 65) 1)⟩, ⟨none, (.mov 9 (.t 70))⟩, ⟨none, (.mov 10 (.t 71))⟩]
theorem uf61r9 : type_of% @f61r9.eq_1 := id @f61r9.eq_1
def f61b10 : AQ := (.seq (.region f61r9) f61b8)
theorem uf61b10 (P ts os Q) : awl P f61b10 Q ts os = awl P (.seq (.region f61r9) f61b8) Q ts os := id rfl
def f61r11 : List AI := [⟨none, (.load 61 3 true (.t 1))⟩, ⟨none, (.call (some 62) 74 [(.t 61)])⟩, ⟨none, (.extr 63 (.t 62) 0)⟩, ⟨none, (.extr 64 (.t 62) 1)⟩, ⟨none, (.mov 2 (.t 63))⟩, ⟨none, (.mov 3 (.t 64))⟩]
theorem uf61r11 : type_of% @f61r11.eq_1 := id @f61r11.eq_1
def f61b12 : AQ := (.seq (.region f61r11) .ret)
theorem uf61b12 (P ts os Q) : awl P f61b12 Q ts os = awl P (.seq (.region f61r11) .ret) Q ts os := id rfl
def f61b13 : AQ := (.cond (.t 60) f61b12 .skip)
theorem uf61b13 (P ts os Q) : awl P f61b13 Q ts os = awl P (.cond (.t 60) f61b12 .skip) Q ts os := id rfl
def f61r14 : List AI := [⟨none, (.mov 59 (.t 8))⟩, ⟨none, (.bin 60 .eql (.t 59) (.v (.k (.c (.int .i64 0)))))⟩]
theorem uf61r14 : type_of% @f61r14.eq_1 := id @f61r14.eq_1
def f61b15 : AQ := (.seq (.region f61r14) f61b13)
theorem uf61b15 (P ts os Q) : awl P f61b15 Q ts os = awl P (.seq (.region f61r14) f61b13) Q ts os := id rfl
def f61b16 : AQ := (.seq f61b15 f61b10)
theorem uf61b16 (P ts os Q) : awl P f61b16 Q ts os = awl P (.seq f61b15 f61b10) Q ts os := id rfl
def f61r17 : List AI := [⟨none, (.mov 2 (.v (.k (.c (.int .i64 0)))))⟩, ⟨none, (.mov 3 (.v (.k (.c (.int .i64 2)))))⟩]
theorem uf61r17 : type_of% @f61r17.eq_1 := id @f61r17.eq_1
def f61b18 : AQ := (.seq (.region f61r17) .ret)
theorem uf61b18 (P ts os Q) : awl P f61b18 Q ts os = awl P (.seq (.region f61r17) .ret) Q ts os := id rfl
def f61b19 : AQ := (.cond (.t 58) f61b18 .skip)
theorem uf61b19 (P ts os Q) : awl P f61b19 Q ts os = awl P (.cond (.t 58) f61b18 .skip) Q ts os := id rfl
def f61r20 : List AI := [⟨none, (.mov 46 (.t 4))⟩, ⟨none, (.len 47 (.t 46))⟩, ⟨none, (.mov 48 (.t 8))⟩, ⟨none, (.bin 49 .neq (.t 47) (.t 48))⟩, ⟨none, (.mov 50 (.t 49))⟩, ⟨(some (50, false)), (.mov 51 (.t 8))⟩, ⟨(some (50, false)), (.bin 52 .gtr (.t 51) (.v (.k (.c (.int .i64 0)))))⟩, ⟨(some (50, false)), (.mov 53 (.t 52))⟩, ⟨(some (53, true)), (.faddr 54 1 (.t 1))⟩, ⟨(some (53, true)), (.load 55 1 false (.t 54))⟩, ⟨(some (53, true)), (.bin 56 .neq (.t 55) (.v (.k (.c (.int .i64 0)))))⟩, ⟨(some (50, false)), (.pick 57 (.t 53) (.t 56) (.v (.k (.c (.bool false)))))⟩, ⟨none, (.pick 58 (.t 50) (.v (.k (.c (.bool true)))) (.t 57))⟩]
theorem uf61r20 : type_of% @f61r20.eq_1 := id @f61r20.eq_1
def f61b21 : AQ := (.seq (.region f61r20) f61b19)
theorem uf61b21 (P ts os Q) : awl P f61b21 Q ts os = awl P (.seq (.region f61r20) f61b19) Q ts os := id rfl
def f61b22 : AQ := (.seq f61b21 f61b16)
theorem uf61b22 (P ts os Q) : awl P f61b22 Q ts os = awl P (.seq f61b21 f61b16) Q ts os := id rfl
def f61r23 : List AI := [⟨none, (.faddr 43 0 (.t 1))⟩, ⟨none, (.load 44 1 false (.t 43))⟩, ⟨none, (.call (some 45) 73 [(.t 44)])⟩, ⟨none, (.mov 8 (.t 45))⟩]
theorem uf61r23 : type_of% @f61r23.eq_1 := id @f61r23.eq_1
def f61b24 : AQ := (.seq (.region f61r23) f61b22)
theorem uf61b24 (P ts os Q) : awl P f61b24 Q ts os = awl P (.seq (.region f61r23) f61b22) Q ts os := id rfl
def f61r25 : List AI := [⟨none, (.mov 2 (.v (.k (.c (.int .i64 0)))))⟩, ⟨none, (.mov 3 (.v (.k (.c (.int .i64 1)))))⟩]
theorem uf61r25 : type_of% @f61r25.eq_1 := id @f61r25.eq_1
def f61b26 : AQ := (.seq (.region f61r25) .ret)
theorem uf61b26 (P ts os Q) : awl P f61b26 Q ts os = awl P (.seq (.region f61r25) .ret) Q ts os := id rfl
def f61b27 : AQ := (.cond (.t 42) f61b26 .skip)
theorem uf61b27 (P ts os Q) : awl P f61b27 Q ts os = awl P (.cond (.t 42) f61b26 .skip) Q ts os := id rfl
def f61r28 : List AI := [⟨none, (.faddr 35 0 (.t 1))⟩, ⟨none, (.load 36 1 false (.t 35))⟩, ⟨none, (.bin 37 .lss (.t 36) (.v (.k (.c (.int .i64 0)))))⟩, ⟨none, (.mov 38 (.t 37))⟩, ⟨(some (38, false)), (.faddr 39 0 (.t 1))⟩, ⟨(some (38, false)), (.load 40 1 false (.t 39))⟩, ⟨(some (38, false)), (.bin 41 .geq (.t 40) (.v (.k (.c (.int .i64 14)))))⟩, ⟨none, (.pick 42 (.t 38) (.v (.k (.c (.bool true)))) (.t 41))⟩]
theorem uf61r28 : type_of% @f61r28.eq_1 := id @f61r28.eq_1
def f61b29 : AQ := (.seq (.region f61r28) f61b27)
theorem uf61b29 (P ts os Q) : awl P f61b29 Q ts os = awl P (.seq (.region f61r28) f61b27) Q ts os := id rfl
def f61b30 : AQ := (.seq f61b29 f61b24)
theorem uf61b30 (P ts os Q) : awl P f61b30 Q ts os = awl P (.seq f61b29 f61b24) Q ts os := id rfl
def f61r31 : List AI := [⟨none, (.mov 17 (.t 5))⟩, ⟨none, (.bin 18 .add (.t 17) (.v (.k (.c (.int .i64 1)))))⟩, ⟨none, (.mov 5 (.t 18))⟩]
theorem uf61r31 : type_of% @f61r31.eq_1 := id @f61r31.eq_1
def f61r32 : List AI := [⟨none, (.mov 31 (.t 4))⟩, ⟨none, (.mov 32 (.t 6))⟩, ⟨none, (.bslice 33 3 1 [(.int .i64 0)] 1 [(0, (.t 32))])⟩, ⟨none, (.append 34 3 1 8 (.t 31) (.t 33))⟩, ⟨none, (.mov 4 (.t 34))⟩]
theorem uf61r32 : type_of% @f61r32.eq_1 := id @f61r32.eq_1
def f61r33 : List AI := [⟨none, (.mov 30 (.t 7))⟩, ⟨none, (.mov 2 (.v (.k (.c (.int .i64 0)))))⟩, ⟨none, (.mov 3 (.t 30))⟩]
theorem uf61r33 : type_of% @f61r33.eq_1 := id @f61r33.eq_1
def f61b34 : AQ := (.seq (.region f61r33) .ret)
theorem uf61b34 (P ts os Q) : awl P f61b34 Q ts os = awl P (.seq (.region f61r33) .ret) Q ts os := id rfl
def f61b35 : AQ := (.cond (.t 29) f61b34 .skip)
theorem uf61b35 (P ts os Q) : awl P f61b35 Q ts os = awl P (.cond (.t 29) f61b34 .skip) Q ts os := id rfl
def f61r36 : List AI := [⟨none, (.mov 28 (.t 7))⟩, ⟨none, (.bin 29 .neq (.t 28) (.v (.k (.c (.int .i64 0)))))⟩]
theorem uf61r36 : type_of% @f61r36.eq_1 := id @f61r36.eq_1
def f61b37 : AQ := (.seq (.region f61r36) f61b35)
theorem uf61b37 (P ts os Q) : awl P f61b37 Q ts os = awl P (.seq (.region f61r36) f61b35) Q ts os := id rfl
def f61b38 : AQ := (.seq f61b37 (.region f61r32))
theorem uf61b38 (P ts os Q) : awl P f61b38 Q ts os = awl P (.seq f61b37 (.region f61r32)) Q ts os := id rfl
def f61r39 : List AI := [⟨none, (.faddr 20 2 (.t 1))⟩, ⟨none, (.load 21 1 false (.t 20))⟩, ⟨none, (.mov 22 (.t 5))⟩, ⟨none, (.iaddr 23 3 (.t 21) (.t 22))⟩, ⟨none, (.load 24 3 true (.t 23))⟩, ⟨none, (.call (some 25) 61 [(.t 24)])⟩, ⟨none, (.mov 19 (.t 25))⟩, ⟨none, (.extr 26 (.t 19) 0)⟩, ⟨none, (.extr 27 (.t 19) 1)⟩, ⟨none, (.mov 6 (.t 26))⟩, ⟨none, (.mov 7 (.t 27))⟩]
theorem uf61r39 : type_of% @f61r39.eq_1 := id @f61r39.eq_1
def f61b40 : AQ := (.seq (.region f61r39) f61b38)
theorem uf61b40 (P ts os Q) : awl P f61b40 Q ts os = awl P (.seq (.region f61r39) f61b38) Q ts os := id rfl
def f61b41 : AQ := (.block 1 f61b40)
theorem uf61b41 (P ts os Q) : awl P f61b41 Q ts os = awl P (.block 1 f61b40) Q ts os := id rfl
def f61b42 : AQ := (.seq f61b41 (.region f61r31))
theorem uf61b42 (P ts os Q) : awl P f61b42 Q ts os = awl P (.seq f61b41 (.region f61r31)) Q ts os := id rfl
def f61b43 : AQ := (.cond (.t 16) .skip (.exit 0))
theorem uf61b43 (P ts os Q) : awl P f61b43 Q ts os = awl P (.cond (.t 16) .skip (.exit 0)) Q ts os := id rfl
def f61r44 : List AI := [⟨none, (.mov 12 (.t 5))⟩, ⟨none, (.faddr 13 2 (.t 1))⟩, ⟨none, (.load 14 1 false (.t 13))⟩, ⟨none, (.len 15 (.t 14))⟩, ⟨none, (.bin 16 .lss (.t 12) (.t 15))⟩]
theorem uf61r44 : type_of% @f61r44.eq_1 := id @f61r44.eq_1
def f61b45 : AQ := (.seq (.region f61r44) f61b43)
theorem uf61b45 (P ts os Q) : awl P f61b45 Q ts os = awl P (.seq (.region f61r44) f61b43) Q ts os := id rfl
def f61b46 : AQ := (.seq f61b45 f61b42)
theorem uf61b46 (P ts os Q) : awl P f61b46 Q ts os = awl P (.seq f61b45 f61b42) Q ts os := id rfl
def f61l47 : AQ := .loop [1, 4, 5] [1, 11, 34] f61b46
theorem uf61l47 (P ts os Q) : awl P f61l47 Q ts os = awl P (.loop [1, 4, 5] [1, 11, 34] f61b46) Q ts os := id rfl
def f61b48 : AQ := (.block 0 f61l47)
theorem uf61b48 (P ts os Q) : awl P f61b48 Q ts os = awl P (.block 0 f61l47) Q ts os := id rfl
def f61r49 : List AI := [⟨none, (.mov 5 (.v (.k (.c (.int .i64 0)))))⟩]
theorem uf61r49 : type_of% @f61r49.eq_1 := id @f61r49.eq_1
def f61b50 : AQ := (.seq (.region f61r49) f61b48)
theorem uf61b50 (P ts os Q) : awl P f61b50 Q ts os = awl P (.seq (.region f61r49) f61b48) Q ts os := id rfl
def f61b51 : AQ := (.seq f61b50 f61b30)
theorem uf61b51 (P ts os Q) : awl P f61b51 Q ts os = awl P (.seq f61b50 f61b30) Q ts os := id rfl
def f61r52 : List AI := [⟨none, (.bslice 11 3 1 [(.int .i64 0)] 0 [])⟩, ⟨none, (.mov 4 (.t 11))⟩]
theorem uf61r52 : type_of% @f61r52.eq_1 := id @f61r52.eq_1
def f61b53 : AQ := (.seq (.region f61r52) f61b51)
theorem uf61b53 (P ts os Q) : awl P f61b53 Q ts os = awl P (.seq (.region f61r52) f61b51) Q ts os := id rfl
def f61r54 : List AI := [⟨none, (.box 1 41 (.t 0))⟩, ⟨none, (.mov 2 (.v (.k (.c (.int .i64 0)))))⟩, ⟨none, (.mov 3 (.v (.k (.c (.int .i64 0)))))⟩]
theorem uf61r54 : type_of% @f61r54.eq_1 := id @f61r54.eq_1
def f61b55 : AQ := (.seq (.region f61r54) f61b53)
theorem uf61b55 (P ts os Q) : awl P f61b55 Q ts os = awl P (.seq (.region f61r54) f61b53) Q ts os := id rfl
def f61 : AQ := f61b55
theorem uf61 (P ts os Q) : awl P f61 Q ts os = awl P f61b55 Q ts os := id rfl
theorem hf61 : cFunc Try.prog 61 = some ⟨75, f61.erase, [(RX.t 2), (RX.t 3)]⟩ := by kernel_rfl
theorem okf61 : f61.ok = true := by kernel_rfl
def f62r1 : List AI := [⟨none, (.bin 24 .add (.t 17) (.v (.k (.c (.int .i64 1)))))⟩, ⟨none, (.mov 17 (.t 24))⟩]
theorem uf62r1 : type_of% @f62r1.eq_1 := id @f62r1.eq_1
def f62r2 : List AI := [⟨none, (.load 21 1 false (.t 2))⟩, ⟨none, (.load 22 3 true (.t 5))⟩, ⟨none, (.callv (some 23) (.t 21) [(.t 22)])⟩]
theorem uf62r2 : type_of% @f62r2.eq_1 := id @f62r2.eq_1
def f62r3 : List AI := [⟨none, (.iaddr 19 3 (.t 15) (.t 17))⟩, ⟨none, (.load 20 3 true (.t 19))⟩, ⟨none, (.alloc 5 41 [(.int .i64 0), (.int .i64 0), (.list 0 (some true) [])])⟩, ⟨none, (.store 3 (.t 5) (.t 20))⟩]
theorem uf62r3 : type_of% @f62r3.eq_1 := id @f62r3.eq_1
def f62b4 : AQ := (.seq (.region f62r3) (.region f62r2))
theorem uf62b4 (P ts os Q) : awl P f62b4 Q ts os = awl P (.seq (.region f62r3) (.region f62r2)) Q ts os := id rfl
def f62b5 : AQ := (.block 1 f62b4)
theorem uf62b5 (P ts os Q) : awl P f62b5 Q ts os = awl P (.block 1 f62b4) Q ts os := id rfl
def f62b6 : AQ := (.seq f62b5 (.region f62r1))
theorem uf62b6 (P ts os Q) : awl P f62b6 Q ts os = awl P (.seq f62b5 (.region f62r1)) Q ts os := id rfl
def f62b7 : AQ := (.cond (.t 18) .skip (.exit 0))
theorem uf62b7 (P ts os Q) : awl P f62b7 Q ts os = awl P (.cond (.t 18) .skip (.exit 0)) Q ts os := id rfl
def f62b8 : AQ := (.seq f62b7 f62b6)
theorem uf62b8 (P ts os Q) : awl P f62b8 Q ts os = awl P (.seq f62b7 f62b6) Q ts os := id rfl
def f62r9 : List AI := [⟨none, (.bin 18 .lss (.t 17) (.t 16))⟩]
theorem uf62r9 : type_of% @f62r9.eq_1 := id @f62r9.eq_1
def f62b10 : AQ := (.seq (.region f62r9) f62b8)
theorem uf62b10 (P ts os Q) : awl P f62b10 Q ts os = awl P (.seq (.region f62r9) f62b8) Q ts os := id rfl
def f62l11 : AQ := .loop [1, 2, 15, 16, 17] [1000, 1005, 1006] f62b10
theorem uf62l11 (P ts os Q) : awl P f62l11 Q ts os = awl P (.loop [1, 2, 15, 16, 17] [1000, 1005, 1006] f62b10) Q ts os := id rfl
def f62b12 : AQ := (.block 0 f62l11)
theorem uf62b12 (P ts os Q) : awl P f62b12 Q ts os = awl P (.block 0 f62l11) Q ts os := id rfl
def f62r13 : List AI := [⟨none, (.faddr 14 2 (.t 3))⟩, ⟨none, (.load 15 1 false (.t 14))⟩, ⟨none, (.len 16 (.t 15))⟩, ⟨none, (.mov 17 (.v (.k (.c (.int .i64 0)))))⟩]
theorem uf62r13 : type_of% @f62r13.eq_1 := id @f62r13.eq_1
def f62b14 : AQ := (.seq (.region f62r13) f62b12)
theorem uf62b14 (P ts os Q) : awl P f62b14 Q ts os = awl P (.seq (.region f62r13) f62b12) Q ts os := id rfl
def f62r15 : List AI := [⟨none, (.load 9 1 false (.t 1))⟩, ⟨none, (.faddr 10 1 (.t 3))⟩, ⟨none, (.load 11 1 false (.t 10))⟩, ⟨none, (.bslice 12 3 1 [(.int .i64 0)] 1 [(0, (.t 11))])⟩, ⟨none, (.append 13 3 1 8 (.t 9) (.t 12))⟩, ⟨none, (.store 1 (.t 1) (.t 13))⟩]
theorem uf62r15 : type_of% @f62r15.eq_1 := id @f62r15.eq_1
def f62b16 : AQ := (.cond (.t 8) (.region f62r15) .skip)
theorem uf62b16 (P ts os Q) : awl P f62b16 Q ts os = awl P (.cond (.t 8) (.region f62r15) .skip) Q ts os := id rfl
def f62r17 : List AI := [⟨none, (.faddr 6 0 (.t 3))⟩, ⟨none, (.load 7 1 false (.t 6))⟩, ⟨none, (.bin 8 .eql (.t 7) (.v (.k (.c (.int .i64 2)))))⟩]
theorem uf62r17 : type_of% @f62r17.eq_1 := id @f62r17.eq_1
def f62b18 : AQ := (.seq (.region f62r17) f62b16)
theorem uf62b18 (P ts os Q) : awl P f62b18 Q ts os = awl P (.seq (.region f62r17) f62b16) Q ts os := id rfl
def f62b19 : AQ := (.seq f62b18 f62b14)
theorem uf62b19 (P ts os Q) : awl P f62b19 Q ts os = awl P (.seq f62b18 f62b14) Q ts os := id rfl
def f62r20 : List AI := [⟨none, (.box 3 41 (.t 0))⟩]
theorem uf62r20 : type_of% @f62r20.eq_1 := id @f62r20.eq_1
def f62b21 : AQ := (.seq (.region f62r20) f62b19)
theorem uf62b21 (P ts os Q) : awl P f62b21 Q ts os = awl P (.seq (.region f62r20) f62b19) Q ts os := id rfl
def f62 : AQ := f62b21
theorem uf62 (P ts os Q) : awl P f62 Q ts os = awl P f62b21 Q ts os := id rfl
theorem hf62 : cFunc Try.prog 62 = some ⟨25, f62.erase, []⟩ := by kernel_rfl
theorem okf62 : f62.ok = true := by kernel_rfl
def f64r1 : List AI := [⟨none, (.build 92 [(.bool false), (.int .i64 0)] [])⟩, ⟨none, (.mov 93 (.t 8))⟩, ⟨none, (.call (some 94) 78 [(.t 93)])⟩, ⟨none, (.store 2 (.t 4) (.t 92))⟩, ⟨none, (.mov 5 (.t 94))⟩]
theorem uf64r1 : type_of% @f64r1.eq_1 := id @f64r1.eq_1
def f64b2 : AQ := (.seq (.region f64r1) .ret)
theorem uf64b2 (P ts os Q) : awl P f64b2 Q ts os = awl P (.seq (.region f64r1) .ret) Q ts os := id rfl
def f64r3 : List AI := [⟨none, (.load 91 2 true (.t 12))⟩, ⟨none, (.store 2 (.t 4) (.t 91))⟩, ⟨none, (.nilL 5 3 1)⟩]
theorem uf64r3 : type_of% @f64r3.eq_1 := id @f64r3.eq_1
def f64b4 : AQ := (.seq (.region f64r3) .ret)
theorem uf64b4 (P ts os Q) : awl P f64b4 Q ts os = awl P (.seq (.region f64r3) .ret) Q ts os := id rfl
def f64b5 : AQ := (.cond (.t 90) f64b4 .skip)
theorem uf64b5 (P ts os Q) : awl P f64b5 Q ts os = awl P (.cond (.t 90) f64b4 .skip) Q ts os := id rfl
def f64r6 : List AI := [⟨none, (.faddr 89 0 (.t 12))⟩, ⟨none, (.load 90 1 false (.t 89))⟩]
theorem uf64r6 : type_of% @f64r6.eq_1 := id @f64r6.eq_1
def f64b7 : AQ := (.seq (.region f64r6) f64b5)
theorem uf64b7 (P ts os Q) : awl P f64b7 Q ts os = awl P (.seq (.region f64r6) f64b5) Q ts os := id rfl
def f64r8 : List AI := [⟨none, (.faddr 85 0 (.t 3))⟩, ⟨none, (.load 86 1 false (.t 85))⟩, ⟨none, (.mov 87 (.t 7))⟩, ⟨none, (.call (some 88) 77 [(.t 86), (.t 87)])⟩, ⟨none, (.alloc 12 53 [(.bool false), (.int .i64 0)])⟩, ⟨none, (.store 2 (.t 12) (.t 88))⟩]
theorem uf64r8 : type_of% @f64r8.eq_1 := id @f64r8.eq_1
def f64b9 : AQ := (.seq (.region f64r8) f64b7)
theorem uf64b9 (P ts os Q) : awl P f64b9 Q ts os = awl P (.seq (.region f64r8) f64b7) Q ts os := id rfl
def f64b10 : AQ := (.seq f64b9 f64b2)
theorem uf64b10 (P ts os Q) : awl P f64b10 Q ts os = awl P (.seq f64b9 f64b2) Q ts os := id rfl
def f64r11o0 : AI := ⟨none, (.mov 77 (.t 7))⟩
theorem uf64r11o0 : f64r11o0 = ⟨none, (.mov 77 (.t 7))⟩ := id rfl
def f64r11o1 : AI := ⟨none, (.mov 78 (.t 11))⟩
theorem uf64r11o1 : f64r11o1 = ⟨none, (.mov 78 (.t 11))⟩ := id rfl
def f64r11o2 : AI := ⟨none, (.iaddr 79 2 (.t 77) (.t 78))⟩
theorem uf64r11o2 : f64r11o2 = ⟨none, (.iaddr 79 2 (.t 77) (.t 78))⟩ := id rfl
def f64r11o3 : AI := ⟨none, (.load 80 2 true (.t 79))⟩
theorem uf64r11o3 : f64r11o3 = ⟨none, (.load 80 2 true (.t 79))⟩ := id rfl
def f64r11o4 : AI := ⟨none, (.mov 81 (.t 8))⟩
theorem uf64r11o4 : f64r11o4 = ⟨none, (.mov 81 (.t 8))⟩ := id rfl
def f64r11o5 : AI := ⟨none, (.mov 82 (.t 11))⟩
theorem uf64r11o5 : f64r11o5 = ⟨none, (.mov 82 (.t 11))⟩ := id rfl
def f64r11o6 : AI := ⟨none, (.iaddr 83 1 (.t 81) (.t 82))⟩
theorem uf64r11o6 : f64r11o6 = ⟨none, (.iaddr 83 1 (.t 81) (.t 82))⟩ := id rfl
def f64r11o7 : AI := ⟨none, (.load 84 1 false (.t 83))⟩
theorem uf64r11o7 : f64r11o7 = ⟨none, (.load 84 1 false (.t 83))⟩ := id rfl
def f64r11o8 : AI := ⟨none, (.store 2 (.t 4) (.t 80))⟩
theorem uf64r11o8 : f64r11o8 = ⟨none, (.store 2 (.t 4) (.t 80))⟩ := id rfl
def f64r11o9 : AI := ⟨none, (.mov 5 (.t 84))⟩
theorem uf64r11o9 : f64r11o9 = ⟨none, (.mov 5 (.t 84))⟩ := id rfl
def f64r11 : List AI := [f64r11o0, f64r11o1, f64r11o2, f64r11o3, f64r11o4, f64r11o5, f64r11o6, f64r11o7, f64r11o8, f64r11o9]
theorem utf64r11 : treeOf f64r11 [[], [], [0, 1], [2], [], [], [4, 5], [6], [3, 0, 1, 2, 3], [7, 8, 0, 1, 2, 3, 4, 5, 6, 7, 8]] = (.one f64r11o0 (.one f64r11o1 (.one f64r11o2 (.one f64r11o3 (.alt (.one f64r11o4 (.alt (.one f64r11o5 (.alt (.one f64r11o6 (.alt (.one f64r11o7 (.one f64r11o8 (.one f64r11o9 .done))) (.alt (.one f64r11o8 (.one f64r11o7 (.one f64r11o9 .done))) .top))) (.alt (.one f64r11o8 (.one f64r11o6 (.one f64r11o7 (.one f64r11o9 .done)))) .top))) (.alt (.one f64r11o8 (.one f64r11o5 (.one f64r11o6 (.one f64r11o7 (.one f64r11o9 .done))))) .top))) (.alt (.one f64r11o5 (.alt (.one f64r11o4 (.alt (.one f64r11o6 (.alt (.one f64r11o7 (.one f64r11o8 (.one f64r11o9 .done))) (.alt (.one f64r11o8 (.one f64r11o7 (.one f64r11o9 .done))) .top))) (.alt (.one f64r11o8 (.one f64r11o6 (.one f64r11o7 (.one f64r11o9 .done)))) .top))) (.alt (.one f64r11o8 (.one f64r11o4 (.one f64r11o6 (.one f64r11o7 (.one f64r11o9 .done))))) .top))) (.alt (.one f64r11o8 (.one f64r11o4 (.one f64r11o5 (.one f64r11o6 (.one f64r11o7 (.one f64r11o9 .done)))))) .top))))))) := by kernel_rfl
def f64b12 : AQ := (.seq (.tree f64r11 [[], [], [0, 1], [2], [], [], [4, 5], [6], [3, 0, 1, 2, 3], [7, 8, 0, 1, 2, 3, 4, 5, 6, 7, 8]]) (.keep [4, 5] [4, 5, 26, 33, 37, 41, 57, 88, 94, 27000, 27001, 27002, 58000, 58001, 58002, 89000, 89001, 89002, 95000, 95001, 95002] .ret))
theorem uf64b12 (P ts os Q) : awl P f64b12 Q ts os = awl P (.seq (.tree f64r11 [[], [], [0, 1], [2], [], [], [4, 5], [6], [3, 0, 1, 2, 3], [7, 8, 0, 1, 2, 3, 4, 5, 6, 7, 8]]) (.keep [4, 5] [4, 5, 26, 33, 37, 41, 57, 88, 94, 27000, 27001, 27002, 58000, 58001, 58002, 89000, 89001, 89002, 95000, 95001, 95002] .ret)) Q ts os := id rfl
def f64r13 : List AI := [⟨none, (.mov 72 (.t 7))⟩, ⟨none, (.iaddr 73 2 (.t 72) (.v (.k (.c (.int .i64 0)))))⟩, ⟨none, (.faddr 74 1 (.t 73))⟩, ⟨none, (.load 75 1 false (.t 74))⟩, ⟨none, (.bin 76 .sub (.v (.k (.c (.int .i64 2)))) (.t 75))⟩, ⟨none, (.mov 11 (.t 76))⟩]
theorem uf64r13 : type_of% @f64r13.eq_1 := id @f64r13.eq_1
def f64b14 : AQ := (.seq (.region f64r13) f64b12)
theorem uf64b14 (P ts os Q) : awl P f64b14 Q ts os = awl P (.seq (.region f64r13) f64b12) Q ts os := id rfl
def f64b15 : AQ := (.cond (.t 71) f64b14 .skip)
theorem uf64b15 (P ts os Q) : awl P f64b15 Q ts os = awl P (.cond (.t 71) f64b14 .skip) Q ts os := id rfl
def f64r16 : List AI := [⟨none, (.faddr 63 0 (.t 3))⟩, ⟨none, (.load 64 1 false (.t 63))⟩, ⟨none, (.bin 65 .eql (.t 64) (.v (.k (.c (.int .i64 6)))))⟩, ⟨none, (.mov 66 (.t 65))⟩, ⟨(some (66, true)), (.mov 67 (.t 7))⟩, ⟨(some (66, true)), (.iaddr 68 2 (.t 67) (.v (.k (.c (.int .i64 0)))))⟩, ⟨(some (66, true)), (.faddr 69 0 (.t 68))⟩, ⟨(some (66, true)), (.load 70 1 false (.t 69))⟩, ⟨none, (.pick 71 (.t 66) (.t 70) (.v (.k (.c (.bool false)))))⟩]
theorem uf64r16 : type_of% @f64r16.eq_1 := id @f64r16.eq_1
def f64b17 : AQ := (.seq (.region f64r16) f64b15)
theorem uf64b17 (P ts os Q) : awl P f64b17 Q ts os = awl P (.seq (.region f64r16) f64b15) Q ts os := id rfl
def f64b18 : AQ := (.seq f64b17 f64b10)
theorem uf64b18 (P ts os Q) : awl P f64b18 Q ts os = awl P (.seq f64b17 f64b10) Q ts os := id rfl
def f64r19 : List AI := [⟨none, (.bin 62 .add (.t 45) (.v (.k (.c (.int .i64 1)))))⟩, ⟨none, (.mov 45 (.t 62))⟩]
theorem uf64r19 : type_of% @f64r19.eq_1 := id @f64r19.eq_1
def f64r20 : List AI := [⟨none, (.mov 51 (.t 7))⟩, ⟨none, (.mov 52 (.t 9))⟩, ⟨none, (.mov 53 (.t 8))⟩, ⟨none, (.mov 54 (.t 9))⟩, ⟨none, (.load 55 1 true (.t 2))⟩, ⟨none, (.load 56 3 true (.t 10))⟩, ⟨none, (.call (some 57) 64 [(.t 55), (.t 56)])⟩, ⟨none, (.mov 50 (.t 57))⟩, ⟨none, (.extr 58 (.t 50) 0)⟩, ⟨none, (.extr 59 (.t 50) 1)⟩, ⟨none, (.iaddr 60 2 (.t 51) (.t 52))⟩, ⟨none, (.store 2 (.t 60) (.t 58))⟩, ⟨none, (.iaddr 61 1 (.t 53) (.t 54))⟩, ⟨none, (.store 1 (.t 61) (.t 59))⟩]
theorem uf64r20 : type_of% @f64r20.eq_1 := id @f64r20.eq_1
def f64r21 : List AI := [⟨none, (.mov 47 (.t 45))⟩, ⟨none, (.iaddr 48 3 (.t 43) (.t 45))⟩, ⟨none, (.load 49 3 true (.t 48))⟩, ⟨none, (.alloc 10 41 [(.int .i64 0), (.int .i64 0), (.list 0 (some true) [])])⟩, ⟨none, (.mov 9 (.t 47))⟩, ⟨none, (.store 3 (.t 10) (.t 49))⟩]
theorem uf64r21 : type_of% @f64r21.eq_1 := id @f64r21.eq_1
def f64b22 : AQ := (.seq (.region f64r21) (.region f64r20))
theorem uf64b22 (P ts os Q) : awl P f64b22 Q ts os = awl P (.seq (.region f64r21) (.region f64r20)) Q ts os := id rfl
def f64b23 : AQ := (.block 2 f64b22)
theorem uf64b23 (P ts os Q) : awl P f64b23 Q ts os = awl P (.block 2 f64b22) Q ts os := id rfl
def f64b24 : AQ := (.seq f64b23 (.region f64r19))
theorem uf64b24 (P ts os Q) : awl P f64b24 Q ts os = awl P (.seq f64b23 (.region f64r19)) Q ts os := id rfl
def f64b25 : AQ := (.cond (.t 46) .skip (.exit 1))
theorem uf64b25 (P ts os Q) : awl P f64b25 Q ts os = awl P (.cond (.t 46) .skip (.exit 1)) Q ts os := id rfl
def f64b26 : AQ := (.seq f64b25 f64b24)
theorem uf64b26 (P ts os Q) : awl P f64b26 Q ts os = awl P (.seq f64b25 f64b24) Q ts os := id rfl
def f64r27 : List AI := [⟨none, (.bin 46 .lss (.t 45) (.t 44))⟩]
theorem uf64r27 : type_of% @f64r27.eq_1 := id @f64r27.eq_1
def f64b28 : AQ := (.seq (.region f64r27) f64b26)
theorem uf64b28 (P ts os Q) : awl P f64b28 Q ts os = awl P (.seq (.region f64r27) f64b26) Q ts os := id rfl
def f64l29 : AQ := .loop [2, 3, 4, 7, 8, 43, 44, 45] [2, 3, 4, 26, 37, 41, 57, 88, 27000, 27001, 27002, 58000, 58001, 58002, 89000, 89001, 89002] f64b28
theorem uf64l29 (P ts os Q) : awl P f64l29 Q ts os = awl P (.loop [2, 3, 4, 7, 8, 43, 44, 45] [2, 3, 4, 26, 37, 41, 57, 88, 27000, 27001, 27002, 58000, 58001, 58002, 89000, 89001, 89002] f64b28) Q ts os := id rfl
def f64b30 : AQ := (.block 1 f64l29)
theorem uf64b30 (P ts os Q) : awl P f64b30 Q ts os = awl P (.block 1 f64l29) Q ts os := id rfl
def f64r31 : List AI := [⟨none, (.faddr 42 2 (.t 3))⟩, ⟨none, (.load 43 1 false (.t 42))⟩, ⟨none, (.len 44 (.t 43))⟩, ⟨none, (.mov 45 (.v (.k (.c (.int .i64 0)))))⟩]
theorem uf64r31 : type_of% @f64r31.eq_1 := id @f64r31.eq_1
def f64b32 : AQ := (.seq (.region f64r31) f64b30)
theorem uf64b32 (P ts os Q) : awl P f64b32 Q ts os = awl P (.seq (.region f64r31) f64b30) Q ts os := id rfl
def f64b33 : AQ := (.seq f64b32 (.frz 41 (.frz 37 f64b18)))
theorem uf64b33 (P ts os Q) : awl P f64b33 Q ts os = awl P (.seq f64b32 (.frz 41 (.frz 37 f64b18))) Q ts os := id rfl
def f64r34 : List AI := [⟨none, (.faddr 38 2 (.t 3))⟩, ⟨none, (.load 39 1 false (.t 38))⟩, ⟨none, (.len 40 (.t 39))⟩, ⟨none, (.mkslice 41 36 1 24 [(.list 0 (some true) [])] (.t 40) (.t 40))⟩, ⟨none, (.mov 8 (.t 41))⟩]
theorem uf64r34 : type_of% @f64r34.eq_1 := id @f64r34.eq_1
def f64b35 : AQ := (.seq (.region f64r34) f64b33)
theorem uf64b35 (P ts os Q) : awl P f64b35 Q ts os = awl P (.seq (.region f64r34) f64b33) Q ts os := id rfl
def f64r36 : List AI := [⟨none, (.faddr 34 2 (.t 3))⟩, ⟨none, (.load 35 1 false (.t 34))⟩, ⟨none, (.len 36 (.t 35))⟩, ⟨none, (.mkslice 37 53 2 16 [(.bool false), (.int .i64 0)] (.t 36) (.t 36))⟩, ⟨none, (.mov 7 (.t 37))⟩]
theorem uf64r36 : type_of% @f64r36.eq_1 := id @f64r36.eq_1
def f64b37 : AQ := (.seq (.region f64r36) f64b35)
theorem uf64b37 (P ts os Q) : awl P f64b37 Q ts os = awl P (.seq (.region f64r36) f64b35) Q ts os := id rfl
def f64r38 : List AI := [⟨none, (.faddr 18 1 (.t 3))⟩, ⟨none, (.load 19 1 false (.t 18))⟩, ⟨none, (.build 20 [(.bool false), (.int .i64 0)] [(0, (1, (.v (.k (.c (.bool true)))))), (1, (1, (.t 19)))])⟩, ⟨none, (.store 2 (.t 4) (.t 20))⟩, ⟨none, (.nilL 5 3 1)⟩]
theorem uf64r38 : type_of% @f64r38.eq_1 := id @f64r38.eq_1
def f64b39 : AQ := (.seq (.region f64r38) .ret)
theorem uf64b39 (P ts os Q) : awl P f64b39 Q ts os = awl P (.seq (.region f64r38) .ret) Q ts os := id rfl
def f64r40o0 : AI := ⟨none, (.build 30 [(.bool false), (.int .i64 0)] [])⟩
theorem uf64r40o0 : f64r40o0 = ⟨none, (.build 30 [(.bool false), (.int .i64 0)] [])⟩ := id rfl
def f64r40o1 : AI := ⟨none, (.faddr 31 1 (.t 3))⟩
theorem uf64r40o1 : f64r40o1 = ⟨none, (.faddr 31 1 (.t 3))⟩ := id rfl
def f64r40o2 : AI := ⟨none, (.load 32 1 false (.t 31))⟩
theorem uf64r40o2 : f64r40o2 = ⟨none, (.load 32 1 false (.t 31))⟩ := id rfl
def f64r40o3 : AI := ⟨none, (.bslice 33 3 1 [(.int .i64 0)] 1 [(0, (.t 32))])⟩
theorem uf64r40o3 : f64r40o3 = ⟨none, (.bslice 33 3 1 [(.int .i64 0)] 1 [(0, (.t 32))])⟩ := id rfl
def f64r40o4 : AI := ⟨none, (.store 2 (.t 4) (.t 30))⟩
theorem uf64r40o4 : f64r40o4 = ⟨none, (.store 2 (.t 4) (.t 30))⟩ := id rfl
def f64r40o5 : AI := ⟨none, (.mov 5 (.t 33))⟩
theorem uf64r40o5 : f64r40o5 = ⟨none, (.mov 5 (.t 33))⟩ := id rfl
def f64r40 : List AI := [f64r40o0, f64r40o1, f64r40o2, f64r40o3, f64r40o4, f64r40o5]
theorem utf64r40 : treeOf f64r40 [[], [], [1], [2], [0, 0], [3, 4, 0, 1, 2, 3, 4]] = (.one f64r40o0 (.alt (.one f64r40o1 (.alt (.one f64r40o2 (.alt (.one f64r40o3 (.one f64r40o4 (.one f64r40o5 .done))) (.alt (.one f64r40o4 (.one f64r40o3 (.one f64r40o5 .done))) .top))) (.alt (.one f64r40o4 (.one f64r40o2 (.one f64r40o3 (.one f64r40o5 .done)))) .top))) (.alt (.one f64r40o4 (.one f64r40o1 (.one f64r40o2 (.one f64r40o3 (.one f64r40o5 .done))))) .top))) := by kernel_rfl
def f64b41 : AQ := (.seq (.tree f64r40 [[], [], [1], [2], [0, 0], [3, 4, 0, 1, 2, 3, 4]]) (.keep [4, 5] [4, 5, 26, 33, 37, 41, 57, 88, 94, 27000, 27001, 27002, 58000, 58001, 58002, 89000, 89001, 89002, 95000, 95001, 95002] .ret))
theorem uf64b41 (P ts os Q) : awl P f64b41 Q ts os = awl P (.seq (.tree f64r40 [[], [], [1], [2], [0, 0], [3, 4, 0, 1, 2, 3, 4]]) (.keep [4, 5] [4, 5, 26, 33, 37, 41, 57, 88, 94, 27000, 27001, 27002, 58000, 58001, 58002, 89000, 89001, 89002, 95000, 95001, 95002] .ret)) Q ts os := id rfl
def f64r42 : List AI := [⟨none, (.load 29 2 true (.t 6))⟩, ⟨none, (.store 2 (.t 4) (.t 29))⟩, ⟨none, (.nilL 5 3 1)⟩]
theorem uf64r42 : type_of% @f64r42.eq_1 := id @f64r42.eq_1
def f64b43 : AQ := (.seq (.region f64r42) .ret)
theorem uf64b43 (P ts os Q) : awl P f64b43 Q ts os = awl P (.seq (.region f64r42) .ret) Q ts os := id rfl
def f64b44 : AQ := (.cond (.t 28) f64b43 .skip)
theorem uf64b44 (P ts os Q) : awl P f64b44 Q ts os = awl P (.cond (.t 28) f64b43 .skip) Q ts os := id rfl
def f64r45 : List AI := [⟨none, (.faddr 27 0 (.t 6))⟩, ⟨none, (.load 28 1 false (.t 27))⟩]
theorem uf64r45 : type_of% @f64r45.eq_1 := id @f64r45.eq_1
def f64b46 : AQ := (.seq (.region f64r45) f64b44)
theorem uf64b46 (P ts os Q) : awl P f64b46 Q ts os = awl P (.seq (.region f64r45) f64b44) Q ts os := id rfl
def f64r47 : List AI := [⟨none, (.load 23 1 true (.t 2))⟩, ⟨none, (.faddr 24 1 (.t 3))⟩, ⟨none, (.load 25 1 false (.t 24))⟩, ⟨none, (.call (some 26) 76 [(.t 23), (.t 25)])⟩, ⟨none, (.alloc 6 53 [(.bool false), (.int .i64 0)])⟩, ⟨none, (.store 2 (.t 6) (.t 26))⟩]
theorem uf64r47 : type_of% @f64r47.eq_1 := id @f64r47.eq_1
def f64b48 : AQ := (.seq (.region f64r47) f64b46)
theorem uf64b48 (P ts os Q) : awl P f64b48 Q ts os = awl P (.seq (.region f64r47) f64b46) Q ts os := id rfl
def f64b49 : AQ := (.seq f64b48 f64b41)
theorem uf64b49 (P ts os Q) : awl P f64b49 Q ts os = awl P (.seq f64b48 f64b41) Q ts os := id rfl
def f64b50 : AQ := (.cond (.t 21) f64b49 .skip)
theorem uf64b50 (P ts os Q) : awl P f64b50 Q ts os = awl P (.cond (.t 21) f64b49 .skip) Q ts os := id rfl
def f64r51 : List AI := [⟨none, (.bin 22 .eql (.t 14) (.v (.k (.c (.int .i64 2)))))⟩, ⟨none, (.mov 21 (.t 22))⟩]
theorem uf64r51 : type_of% @f64r51.eq_1 := id @f64r51.eq_1
def f64b52 : AQ := (.seq (.region f64r51) f64b50)
theorem uf64b52 (P ts os Q) : awl P f64b52 Q ts os = awl P (.seq (.region f64r51) f64b50) Q ts os := id rfl
def f64b53 : AQ := (.cond (.t 15) f64b39 f64b52)
theorem uf64b53 (P ts os Q) : awl P f64b53 Q ts os = awl P (.cond (.t 15) f64b39 f64b52) Q ts os := id rfl
def f64r54 : List AI := [⟨none, (.bin 17 .eql (.t 14) (.v (.k (.c (.int .i64 1)))))⟩, ⟨none, (.mov 15 (.t 17))⟩]
theorem uf64r54 : type_of% @f64r54.eq_1 := id @f64r54.eq_1
def f64b55 : AQ := (.cond (.t 15) .skip (.region f64r54))
theorem uf64b55 (P ts os Q) : awl P f64b55 Q ts os = awl P (.cond (.t 15) .skip (.region f64r54)) Q ts os := id rfl
def f64r56 : List AI := [⟨none, (.bin 16 .eql (.t 14) (.v (.k (.c (.int .i64 0)))))⟩, ⟨none, (.mov 15 (.t 16))⟩]
theorem uf64r56 : type_of% @f64r56.eq_1 := id @f64r56.eq_1
def f64b57 : AQ := (.seq (.region f64r56) f64b55)
theorem uf64b57 (P ts os Q) : awl P f64b57 Q ts os = awl P (.seq (.region f64r56) f64b55) Q ts os := id rfl
def f64b58 : AQ := (.seq f64b57 f64b53)
theorem uf64b58 (P ts os Q) : awl P f64b58 Q ts os = awl P (.seq f64b57 f64b53) Q ts os := id rfl
def f64b59 : AQ := (.block 0 f64b58)
theorem uf64b59 (P ts os Q) : awl P f64b59 Q ts os = awl P (.block 0 f64b58) Q ts os := id rfl
def f64r60 : List AI := [⟨none, (.faddr 13 0 (.t 3))⟩, ⟨none, (.load 14 1 false (.t 13))⟩]
theorem uf64r60 : type_of% @f64r60.eq_1 := id @f64r60.eq_1
def f64b61 : AQ := (.seq (.region f64r60) f64b59)
theorem uf64b61 (P ts os Q) : awl P f64b61 Q ts os = awl P (.seq (.region f64r60) f64b59) Q ts os := id rfl
def f64b62 : AQ := (.seq f64b61 f64b37)
theorem uf64b62 (P ts os Q) : awl P f64b62 Q ts os = awl P (.seq f64b61 f64b37) Q ts os := id rfl
def f64r63 : List AI := [⟨none, (.box 2 83 (.t 0))⟩, ⟨none, (.box 3 41 (.t 1))⟩, ⟨none, (.alloc 4 53 [(.bool false), (.int .i64 0)])⟩, ⟨none, (.nilL 5 3 1)⟩]
theorem uf64r63 : type_of% @f64r63.eq_1 := id @f64r63.eq_1
def f64b64 : AQ := (.seq (.region f64r63) f64b62)
theorem uf64b64 (P ts os Q) : awl P f64b64 Q ts os = awl P (.seq (.region f64r63) f64b62) Q ts os := id rfl
def f64 : AQ := f64b64
theorem uf64 (P ts os Q) : awl P f64 Q ts os = awl P f64b64 Q ts os := id rfl
theorem hf64 : cFunc Try.prog 64 = some ⟨95, f64.erase, [(RX.cell 4 2 true), (RX.t 5)]⟩ := by kernel_rfl
theorem okf64 : f64.ok = true := by kernel_rfl
def f71r1 : List AI := [⟨none, (.mov 38 (.t 4))⟩, ⟨none, (.mov 2 (.t 38))⟩, ⟨none, (.mov 3 (.v (.k (.c (.int .i64 0)))))⟩]
theorem uf71r1 : type_of% @f71r1.eq_1 := id @f71r1.eq_1
def f71b2 : AQ := (.seq (.region f71r1) .ret)
theorem uf71b2 (P ts os Q) : awl P f71b2 Q ts os = awl P (.seq (.region f71r1) .ret) Q ts os := id rfl
def f71r3 : List AI := [⟨none, (.mov 2 (.v (.k (.c (.int .i64 0)))))⟩, ⟨none, (.mov 3 (.v (.k (.c (.int .i64 10)))))⟩]
theorem uf71r3 : type_of% @f71r3.eq_1 := id @f71r3.eq_1
def f71b4 : AQ := (.seq (.region f71r3) .ret)
theorem uf71b4 (P ts os Q) : awl P f71b4 Q ts os = awl P (.seq (.region f71r3) .ret) Q ts os := id rfl
def f71b5 : AQ := (.cond (.t 37) f71b4 .skip)
theorem uf71b5 (P ts os Q) : awl P f71b5 Q ts os = awl P (.cond (.t 37) f71b4 .skip) Q ts os := id rfl
def f71r6 : List AI := [⟨none, (.mov 36 (.t 5))⟩, ⟨none, (.un 37 .not (.t 36))⟩]
theorem uf71r6 : type_of% @f71r6.eq_1 := id @f71r6.eq_1
def f71b7 : AQ := (.seq (.region f71r6) f71b5)
theorem uf71b7 (P ts os Q) : awl P f71b7 Q ts os = awl P (.seq (.region f71r6) f71b5) Q ts os := id rfl
def f71b8 : AQ := (.seq f71b7 f71b2)
theorem uf71b8 (P ts os Q) : awl P f71b8 Q ts os = awl P (.seq f71b7 f71b2) Q ts os := id rfl
def f71r9 : List AI := [⟨none, (.faddr 31 1 (.t 1))⟩, ⟨none, (.load 32 1 false (.t 31))⟩, ⟨none, (.call (some 33) 33 [(.t 32)])⟩, ⟨none, (.mov 30 (.t 33))⟩, ⟨none, (.extr 34 (.t 30) 0)⟩, ⟨none, (.extr 35 (.t 30) 1)⟩, ⟨none, (.mov 4 (.t 34))⟩, ⟨none, (.mov 5 (.t 35))⟩]
theorem uf71r9 : type_of% @f71r9.eq_1 := id @f71r9.eq_1
def f71b10 : AQ := (.seq (.region f71r9) f71b8)
theorem uf71b10 (P ts os Q) : awl P f71b10 Q ts os = awl P (.seq (.region f71r9) f71b8) Q ts os := id rfl
def f71r11 : List AI := [⟨none, (.mov 2 (.v (.k (.c (.int .i64 0)))))⟩, ⟨none, (.mov 3 (.v (.k (.c (.int .i64 0)))))⟩]
theorem uf71r11 : type_of% @f71r11.eq_1 := id @f71r11.eq_1
def f71b12 : AQ := (.seq (.region f71r11) .ret)
theorem uf71b12 (P ts os Q) : awl P f71b12 Q ts os = awl P (.seq (.region f71r11) .ret) Q ts os := id rfl
def f71r13 : List AI := [⟨none, (.mov 2 (.v (.k (.c (.int .i64 0)))))⟩, ⟨none, (.mov 3 (.v (.k (.c (.int .i64 3)))))⟩]
theorem uf71r13 : type_of% @f71r13.eq_1 := id @f71r13.eq_1
def f71b14 : AQ := (.seq (.region f71r13) .ret)
theorem uf71b14 (P ts os Q) : awl P f71b14 Q ts os = awl P (.seq (.region f71r13) .ret) Q ts os := id rfl
def f71b15 : AQ := (.cond (.t 19) f71b14 .skip)
theorem uf71b15 (P ts os Q) : awl P f71b15 Q ts os = awl P (.cond (.t 19) f71b14 .skip) Q ts os := id rfl
def f71r16 : List AI := [⟨none, (.faddr 14 1 (.t 1))⟩, ⟨none, (.load 15 1 false (.t 14))⟩, ⟨none, (.call (some 16) 93 [(.t 15)])⟩, ⟨none, (.faddr 17 1 (.t 1))⟩, ⟨none, (.load 18 1 false (.t 17))⟩, ⟨none, (.bin 19 .neq (.t 16) (.t 18))⟩]
theorem uf71r16 : type_of% @f71r16.eq_1 := id @f71r16.eq_1
def f71b17 : AQ := (.seq (.draw f71r16 [[], [0], [1], [], [3], [2, 4]]) f71b15)
theorem uf71b17 (P ts os Q) : awl P f71b17 Q ts os = awl P (.seq (.draw f71r16 [[], [0], [1], [], [3], [2, 4]]) f71b15) Q ts os := id rfl
def f71b18 : AQ := (.seq f71b17 f71b12)
theorem uf71b18 (P ts os Q) : awl P f71b18 Q ts os = awl P (.seq f71b17 f71b12) Q ts os := id rfl
def f71r19 : List AI := [⟨none, (.mov 2 (.v (.k (.c (.int .i64 1)))))⟩, ⟨none, (.mov 3 (.v (.k (.c (.int .i64 0)))))⟩]
theorem uf71r19 : type_of% @f71r19.eq_1 := id @f71r19.eq_1
def f71b20 : AQ := (.seq (.region f71r19) .ret)
theorem uf71b20 (P ts os Q) : awl P f71b20 Q ts os = awl P (.seq (.region f71r19) .ret) Q ts os := id rfl
def f71r21 : List AI := [⟨none, (.mov 2 (.v (.k (.c (.int .i64 0)))))⟩, ⟨none, (.mov 3 (.v (.k (.c (.int .i64 3)))))⟩]
theorem uf71r21 : type_of% @f71r21.eq_1 := id @f71r21.eq_1
def f71b22 : AQ := (.seq (.region f71r21) .ret)
theorem uf71b22 (P ts os Q) : awl P f71b22 Q ts os = awl P (.seq (.region f71r21) .ret) Q ts os := id rfl
def f71b23 : AQ := (.cond (.t 29) f71b22 .skip)
theorem uf71b23 (P ts os Q) : awl P f71b23 Q ts os = awl P (.cond (.t 29) f71b22 .skip) Q ts os := id rfl
def f71r24 : List AI := [⟨none, (.faddr 22 1 (.t 1))⟩, ⟨none, (.load 23 1 false (.t 22))⟩, ⟨none, (.bin 24 .lss (.t 23) (.v (.k (.c (.int .i64 0)))))⟩, ⟨none, (.mov 25 (.t 24))⟩, ⟨(some (25, false)), (.faddr 26 1 (.t 1))⟩, ⟨(some (25, false)), (.load 27 1 false (.t 26))⟩, ⟨(some (25, false)), (.bin 28 .gtr (.t 27) (.v (.k (.c (.int .i64 1)))))⟩, ⟨none, (.pick 29 (.t 25) (.v (.k (.c (.bool true)))) (.t 28))⟩]
theorem uf71r24 : type_of% @f71r24.eq_1 := id @f71r24.eq_1
def f71b25 : AQ := (.seq (.region f71r24) f71b23)
theorem uf71b25 (P ts os Q) : awl P f71b25 Q ts os = awl P (.seq (.region f71r24) f71b23) Q ts os := id rfl
def f71b26 : AQ := (.seq f71b25 f71b20)
theorem uf71b26 (P ts os Q) : awl P f71b26 Q ts os = awl P (.seq f71b25 f71b20) Q ts os := id rfl
def f71b27 : AQ := (.cond (.t 20) f71b26 .skip)
theorem uf71b27 (P ts os Q) : awl P f71b27 Q ts os = awl P (.cond (.t 20) f71b26 .skip) Q ts os := id rfl
def f71r28 : List AI := [⟨none, (.bin 21 .eql (.t 11) (.v (.k (.c (.int .i64 1)))))⟩, ⟨none, (.mov 20 (.t 21))⟩]
theorem uf71r28 : type_of% @f71r28.eq_1 := id @f71r28.eq_1
def f71b29 : AQ := (.seq (.region f71r28) f71b27)
theorem uf71b29 (P ts os Q) : awl P f71b29 Q ts os = awl P (.seq (.region f71r28) f71b27) Q ts os := id rfl
def f71b30 : AQ := (.cond (.t 12) f71b18 f71b29)
theorem uf71b30 (P ts os Q) : awl P f71b30 Q ts os = awl P (.cond (.t 12) f71b18 f71b29) Q ts os := id rfl
def f71r31 : List AI := [⟨none, (.bin 13 .eql (.t 11) (.v (.k (.c (.int .i64 0)))))⟩, ⟨none, (.mov 12 (.t 13))⟩]
theorem uf71r31 : type_of% @f71r31.eq_1 := id @f71r31.eq_1
def f71b32 : AQ := (.seq (.region f71r31) f71b30)
theorem uf71b32 (P ts os Q) : awl P f71b32 Q ts os = awl P (.seq (.region f71r31) f71b30) Q ts os := id rfl
def f71b33 : AQ := (.block 0 f71b32)
theorem uf71b33 (P ts os Q) : awl P f71b33 Q ts os = awl P (.block 0 f71b32) Q ts os := id rfl
def f71r34 : List AI := [⟨none, (.faddr 10 0 (.t 1))⟩, ⟨none, (.load 11 1 false (.t 10))⟩]
theorem uf71r34 : type_of% @f71r34.eq_1 := id @f71r34.eq_1
def f71b35 : AQ := (.seq (.region f71r34) f71b33)
theorem uf71b35 (P ts os Q) : awl P f71b35 Q ts os = awl P (.seq (.region f71r34) f71b33) Q ts os := id rfl
def f71b36 : AQ := (.seq f71b35 f71b10)
theorem uf71b36 (P ts os Q) : awl P f71b36 Q ts os = awl P (.seq f71b35 f71b10) Q ts os := id rfl
def f71r37 : List AI := [⟨none, (.mov 2 (.v (.k (.c (.int .i64 0)))))⟩, ⟨none, (.mov 3 (.v (.k (.c (.int .i64 2)))))⟩]
theorem uf71r37 : type_of% @f71r37.eq_1 := id @f71r37.eq_1
def f71b38 : AQ := (.seq (.region f71r37) .ret)
theorem uf71b38 (P ts os Q) : awl P f71b38 Q ts os = awl P (.seq (.region f71r37) .ret) Q ts os := id rfl
def f71b39 : AQ := (.cond (.t 9) f71b38 .skip)
theorem uf71b39 (P ts os Q) : awl P f71b39 Q ts os = awl P (.cond (.t 9) f71b38 .skip) Q ts os := id rfl
def f71r40 : List AI := [⟨none, (.faddr 6 2 (.t 1))⟩, ⟨none, (.load 7 1 false (.t 6))⟩, ⟨none, (.len 8 (.t 7))⟩, ⟨none, (.bin 9 .gtr (.t 8) (.v (.k (.c (.int .i64 0)))))⟩]
theorem uf71r40 : type_of% @f71r40.eq_1 := id @f71r40.eq_1
def f71b41 : AQ := (.seq (.region f71r40) f71b39)
theorem uf71b41 (P ts os Q) : awl P f71b41 Q ts os = awl P (.seq (.region f71r40) f71b39) Q ts os := id rfl
def f71b42 : AQ := (.seq f71b41 f71b36)
theorem uf71b42 (P ts os Q) : awl P f71b42 Q ts os = awl P (.seq f71b41 f71b36) Q ts os := id rfl
def f71r43 : List AI := [⟨none, (.box 1 41 (.t 0))⟩, ⟨none, (.mov 2 (.v (.k (.c (.int .i64 0)))))⟩, ⟨none, (.mov 3 (.v (.k (.c (.int .i64 0)))))⟩]
theorem uf71r43 : type_of% @f71r43.eq_1 := id @f71r43.eq_1
def f71b44 : AQ := (.seq (.region f71r43) f71b42)
theorem uf71b44 (P ts os Q) : awl P f71b44 Q ts os = awl P (.seq (.region f71r43) f71b42) Q ts os := id rfl
def f71 : AQ := f71b44
theorem uf71 (P ts os Q) : awl P f71 Q ts os = awl P f71b44 Q ts os := id rfl
theorem hf71 : cFunc Try.prog 71 = some ⟨39, f71.erase, [(RX.t 2), (RX.t 3)]⟩ := by kernel_rfl
theorem okf71 : f71.ok = true := by kernel_rfl
def f72r1 : List AI := [⟨none, (.bslice 25 3 1 [(.int .i64 0)] 2 [(0, (.v (.k (.c (.int .i64 0))))), (1, (.v (.k (.c (.int .i64 0)))))])⟩, ⟨none, (.build 26 [(.list 0 (some true) []), (.int .i64 0)] [(0, (1, (.t 25))), (1, (1, (.v (.k (.c (.int .i64 0))))))])⟩, ⟨none, (.store 2 (.t 2) (.t 26))⟩]
theorem uf72r1 : type_of% @f72r1.eq_1 := id @f72r1.eq_1
def f72b2 : AQ := (.seq (.region f72r1) .ret)
theorem uf72b2 (P ts os Q) : awl P f72b2 Q ts os = awl P (.seq (.region f72r1) .ret) Q ts os := id rfl
def f72r3 : List AI := [⟨none, (.bslice 6 3 1 [(.int .i64 0)] 1 [(0, (.v (.k (.c (.int .i64 1)))))])⟩, ⟨none, (.build 7 [(.list 0 (some true) []), (.int .i64 0)] [(0, (1, (.t 6))), (1, (1, (.v (.k (.c (.int .i64 1))))))])⟩, ⟨none, (.store 2 (.t 2) (.t 7))⟩]
theorem uf72r3 : type_of% @f72r3.eq_1 := id @f72r3.eq_1
def f72b4 : AQ := (.seq (.region f72r3) .ret)
theorem uf72b4 (P ts os Q) : awl P f72b4 Q ts os = awl P (.seq (.region f72r3) .ret) Q ts os := id rfl
def f72r5 : List AI := [⟨none, (.bslice 11 3 1 [(.int .i64 0)] 2 [(0, (.v (.k (.c (.int .i64 1))))), (1, (.v (.k (.c (.int .i64 1)))))])⟩, ⟨none, (.build 12 [(.list 0 (some true) []), (.int .i64 0)] [(0, (1, (.t 11))), (1, (1, (.v (.k (.c (.int .i64 1))))))])⟩, ⟨none, (.store 2 (.t 2) (.t 12))⟩]
theorem uf72r5 : type_of% @f72r5.eq_1 := id @f72r5.eq_1
def f72b6 : AQ := (.seq (.region f72r5) .ret)
theorem uf72b6 (P ts os Q) : awl P f72b6 Q ts os = awl P (.seq (.region f72r5) .ret) Q ts os := id rfl
def f72r7 : List AI := [⟨none, (.bslice 15 3 1 [(.int .i64 0)] 3 [(0, (.v (.k (.c (.int .i64 1))))), (1, (.v (.k (.c (.int .i64 (-1)))))), (2, (.v (.k (.c (.int .i64 (-1))))))])⟩, (AI.mk none (.build 16 [(.list 0 (some true) []), (.int .i64 0)] [(0, (1, (.t 15))), (1, (1, (.v (.k (.c (.int .i64 (-1)))))))])), ⟨none, (.store 2 (.t 2) (.t 16))⟩]
theorem uf72r7 : type_of% @f72r7.eq_1 := id @f72r7.eq_1
def f72b8 : AQ := (.seq (.region f72r7) .ret)
theorem uf72b8 (P ts os Q) : awl P f72b8 Q ts os = awl P (.seq (.region f72r7) .ret) Q ts os := id rfl
def f72r9 : List AI := [⟨none, (.bslice 19 3 1 [(.int .i64 0)] 2 [(0, (.v (.k (.c (.int .i64 0))))), (1, (.v (.k (.c (.int .i64 0)))))])⟩, ⟨none, (.build 20 [(.list 0 (some true) []), (.int .i64 0)] [(0, (1, (.t 19))), (1, (1, (.v (.k (.c (.int .i64 1))))))])⟩, ⟨none, (.store 2 (.t 2) (.t 20))⟩]
theorem uf72r9 : type_of% @f72r9.eq_1 := id @f72r9.eq_1
def f72b10 : AQ := (.seq (.region f72r9) .ret)
theorem uf72b10 (P ts os Q) : awl P f72b10 Q ts os = awl P (.seq (.region f72r9) .ret) Q ts os := id rfl
def f72r11 : List AI := [⟨none, (.bslice 23 3 1 [(.int .i64 0)] 2 [(0, (.v (.k (.c (.int .i64 (-1)))))), (1, (.v (.k (.c (.int .i64 (-1))))))])⟩, ⟨none, (.build 24 [(.list 0 (some true) []), (.int .i64 0)] [(0, (1, (.t 23))), (1, (1, (.v (.k (.c (.int .i64 1))))))])⟩, ⟨none, (.store 2 (.t 2) (.t 24))⟩]
theorem uf72r11 : type_of% @f72r11.eq_1 := id @f72r11.eq_1
def f72b12 : AQ := (.seq (.region f72r11) .ret)
theorem uf72b12 (P ts os Q) : awl P f72b12 Q ts os = awl P (.seq (.region f72r11) .ret) Q ts os := id rfl
def f72b13 : AQ := (.cond (.t 21) f72b12 .skip)
theorem uf72b13 (P ts os Q) : awl P f72b13 Q ts os = awl P (.cond (.t 21) f72b12 .skip) Q ts os := id rfl
def f72r14 : List AI := [⟨none, (.bin 22 .eql (.t 3) (.v (.k (.c (.int .i64 8)))))⟩, ⟨none, (.mov 21 (.t 22))⟩]
theorem uf72r14 : type_of% @f72r14.eq_1 := id @f72r14.eq_1
def f72b15 : AQ := (.seq (.region f72r14) f72b13)
theorem uf72b15 (P ts os Q) : awl P f72b15 Q ts os = awl P (.seq (.region f72r14) f72b13) Q ts os := id rfl
def f72b16 : AQ := (.cond (.t 17) f72b10 f72b15)
theorem uf72b16 (P ts os Q) : awl P f72b16 Q ts os = awl P (.cond (.t 17) f72b10 f72b15) Q ts os := id rfl
def f72r17 : List AI := [⟨none, (.bin 18 .eql (.t 3) (.v (.k (.c (.int .i64 7)))))⟩, ⟨none, (.mov 17 (.t 18))⟩]
theorem uf72r17 : type_of% @f72r17.eq_1 := id @f72r17.eq_1
def f72b18 : AQ := (.seq (.region f72r17) f72b16)
theorem uf72b18 (P ts os Q) : awl P f72b18 Q ts os = awl P (.seq (.region f72r17) f72b16) Q ts os := id rfl
def f72b19 : AQ := (.cond (.t 13) f72b8 f72b18)
theorem uf72b19 (P ts os Q) : awl P f72b19 Q ts os = awl P (.cond (.t 13) f72b8 f72b18) Q ts os := id rfl
def f72r20 : List AI := [⟨none, (.bin 14 .eql (.t 3) (.v (.k (.c (.int .i64 6)))))⟩, ⟨none, (.mov 13 (.t 14))⟩]
theorem uf72r20 : type_of% @f72r20.eq_1 := id @f72r20.eq_1
def f72b21 : AQ := (.seq (.region f72r20) f72b19)
theorem uf72b21 (P ts os Q) : awl P f72b21 Q ts os = awl P (.seq (.region f72r20) f72b19) Q ts os := id rfl
def f72b22 : AQ := (.cond (.t 8) f72b6 f72b21)
theorem uf72b22 (P ts os Q) : awl P f72b22 Q ts os = awl P (.cond (.t 8) f72b6 f72b21) Q ts os := id rfl
def f72r23 : List AI := [⟨none, (.bin 10 .eql (.t 3) (.v (.k (.c (.int .i64 5)))))⟩, ⟨none, (.mov 8 (.t 10))⟩]
theorem uf72r23 : type_of% @f72r23.eq_1 := id @f72r23.eq_1
def f72b24 : AQ := (.cond (.t 8) .skip (.region f72r23))
theorem uf72b24 (P ts os Q) : awl P f72b24 Q ts os = awl P (.cond (.t 8) .skip (.region f72r23)) Q ts os := id rfl
def f72r25 : List AI := [⟨none, (.bin 9 .eql (.t 3) (.v (.k (.c (.int .i64 4)))))⟩, ⟨none, (.mov 8 (.t 9))⟩]
theorem uf72r25 : type_of% @f72r25.eq_1 := id @f72r25.eq_1
def f72b26 : AQ := (.seq (.region f72r25) f72b24)
theorem uf72b26 (P ts os Q) : awl P f72b26 Q ts os = awl P (.seq (.region f72r25) f72b24) Q ts os := id rfl
def f72b27 : AQ := (.seq f72b26 f72b22)
theorem uf72b27 (P ts os Q) : awl P f72b27 Q ts os = awl P (.seq f72b26 f72b22) Q ts os := id rfl
def f72b28 : AQ := (.cond (.t 4) f72b4 f72b27)
theorem uf72b28 (P ts os Q) : awl P f72b28 Q ts os = awl P (.cond (.t 4) f72b4 f72b27) Q ts os := id rfl
def f72r29 : List AI := [⟨none, (.bin 5 .eql (.t 3) (.v (.k (.c (.int .i64 3)))))⟩, ⟨none, (.mov 4 (.t 5))⟩]
theorem uf72r29 : type_of% @f72r29.eq_1 := id @f72r29.eq_1
def f72b30 : AQ := (.seq (.region f72r29) f72b28)
theorem uf72b30 (P ts os Q) : awl P f72b30 Q ts os = awl P (.seq (.region f72r29) f72b28) Q ts os := id rfl
def f72b31 : AQ := (.block 0 f72b30)
theorem uf72b31 (P ts os Q) : awl P f72b31 Q ts os = awl P (.block 0 f72b30) Q ts os := id rfl
def f72r32 : List AI := [⟨none, (.mov 3 (.t 0))⟩]
theorem uf72r32 : type_of% @f72r32.eq_1 := id @f72r32.eq_1
def f72b33 : AQ := (.seq (.region f72r32) f72b31)
theorem uf72b33 (P ts os Q) : awl P f72b33 Q ts os = awl P (.seq (.region f72r32) f72b31) Q ts os := id rfl
def f72b34 : AQ := (.seq f72b33 f72b2)
theorem uf72b34 (P ts os Q) : awl P f72b34 Q ts os = awl P (.seq f72b33 f72b2) Q ts os := id rfl
def f72r35 : List AI := [⟨none, (.alloc 2 92 [(.list 0 (some true) []), (.int .i64 0)])⟩]
theorem uf72r35 : type_of% @f72r35.eq_1 := id @f72r35.eq_1
def f72b36 : AQ := (.seq (.region f72r35) f72b34)
theorem uf72b36 (P ts os Q) : awl P f72b36 Q ts os = awl P (.seq (.region f72r35) f72b34) Q ts os := id rfl
def f72 : AQ := f72b36
theorem uf72 (P ts os Q) : awl P f72 Q ts os = awl P f72b36 Q ts os := id rfl
theorem hf72 : cFunc Try.prog 72 = some ⟨27, f72.erase, [(RX.cell 2 2 true)]⟩ := by kernel_rfl
theorem okf72 : f72.ok = true := by kernel_rfl
def f73r1 : List AI := [⟨none, (.mov 2 (.v (.k (.c (.int .i64 2)))))⟩]
theorem uf73r1 : type_of% @f73r1.eq_1 := id @f73r1.eq_1
def f73b2 : AQ := (.seq (.region f73r1) .ret)
theorem uf73b2 (P ts os Q) : awl P f73b2 Q ts os = awl P (.seq (.region f73r1) .ret) Q ts os := id rfl
def f73r3 : List AI := [⟨none, (.mov 2 (.v (.k (.c (.int .i64 0)))))⟩]
theorem uf73r3 : type_of% @f73r3.eq_1 := id @f73r3.eq_1
def f73b4 : AQ := (.seq (.region f73r3) .ret)
theorem uf73b4 (P ts os Q) : awl P f73b4 Q ts os = awl P (.seq (.region f73r3) .ret) Q ts os := id rfl
def f73r5 : List AI := [⟨none, (.mov 2 (.v (.k (.c (.int .i64 1)))))⟩]
theorem uf73r5 : type_of% @f73r5.eq_1 := id @f73r5.eq_1
def f73b6 : AQ := (.seq (.region f73r5) .ret)
theorem uf73b6 (P ts os Q) : awl P f73b6 Q ts os = awl P (.seq (.region f73r5) .ret) Q ts os := id rfl
def f73r7 : List AI := [⟨none, (.mov 2 (.v (.k (.c (.int .i64 3)))))⟩]
theorem uf73r7 : type_of% @f73r7.eq_1 := id @f73r7.eq_1
def f73b8 : AQ := (.seq (.region f73r7) .ret)
theorem uf73b8 (P ts os Q) : awl P f73b8 Q ts os = awl P (.seq (.region f73r7) .ret) Q ts os := id rfl
def f73b9 : AQ := (.cond (.t 10) f73b8 .skip)
theorem uf73b9 (P ts os Q) : awl P f73b9 Q ts os = awl P (.cond (.t 10) f73b8 .skip) Q ts os := id rfl
def f73r10 : List AI := [⟨none, (.bin 11 .eql (.t 3) (.v (.k (.c (.int .i64 6)))))⟩, ⟨none, (.mov 10 (.t 11))⟩]
theorem uf73r10 : type_of% @f73r10.eq_1 := id @f73r10.eq_1
def f73b11 : AQ := (.seq (.region f73r10) f73b9)
theorem uf73b11 (P ts os Q) : awl P f73b11 Q ts os = awl P (.seq (.region f73r10) f73b9) Q ts os := id rfl
def f73b12 : AQ := (.cond (.t 8) f73b6 f73b11)
theorem uf73b12 (P ts os Q) : awl P f73b12 Q ts os = awl P (.cond (.t 8) f73b6 f73b11) Q ts os := id rfl
def f73r13 : List AI := [⟨none, (.bin 9 .eql (.t 3) (.v (.k (.c (.int .i64 3)))))⟩, ⟨none, (.mov 8 (.t 9))⟩]
theorem uf73r13 : type_of% @f73r13.eq_1 := id @f73r13.eq_1
def f73b14 : AQ := (.seq (.region f73r13) f73b12)
theorem uf73b14 (P ts os Q) : awl P f73b14 Q ts os = awl P (.seq (.region f73r13) f73b12) Q ts os := id rfl
def f73b15 : AQ := (.cond (.t 4) f73b4 f73b14)
theorem uf73b15 (P ts os Q) : awl P f73b15 Q ts os = awl P (.cond (.t 4) f73b4 f73b14) Q ts os := id rfl
def f73r16 : List AI := [⟨none, (.bin 7 .eql (.t 3) (.v (.k (.c (.int .i64 2)))))⟩, ⟨none, (.mov 4 (.t 7))⟩]
theorem uf73r16 : type_of% @f73r16.eq_1 := id @f73r16.eq_1
def f73b17 : AQ := (.cond (.t 4) .skip (.region f73r16))
theorem uf73b17 (P ts os Q) : awl P f73b17 Q ts os = awl P (.cond (.t 4) .skip (.region f73r16)) Q ts os := id rfl
def f73r18 : List AI := [⟨none, (.bin 6 .eql (.t 3) (.v (.k (.c (.int .i64 1)))))⟩, ⟨none, (.mov 4 (.t 6))⟩]
theorem uf73r18 : type_of% @f73r18.eq_1 := id @f73r18.eq_1
def f73b19 : AQ := (.seq (.region f73r18) f73b17)
theorem uf73b19 (P ts os Q) : awl P f73b19 Q ts os = awl P (.seq (.region f73r18) f73b17) Q ts os := id rfl
def f73b20 : AQ := (.cond (.t 4) .skip f73b19)
theorem uf73b20 (P ts os Q) : awl P f73b20 Q ts os = awl P (.cond (.t 4) .skip f73b19) Q ts os := id rfl
def f73r21 : List AI := [⟨none, (.bin 5 .eql (.t 3) (.v (.k (.c (.int .i64 0)))))⟩, ⟨none, (.mov 4 (.t 5))⟩]
theorem uf73r21 : type_of% @f73r21.eq_1 := id @f73r21.eq_1
def f73b22 : AQ := (.seq (.region f73r21) f73b20)
theorem uf73b22 (P ts os Q) : awl P f73b22 Q ts os = awl P (.seq (.region f73r21) f73b20) Q ts os := id rfl
def f73b23 : AQ := (.seq f73b22 f73b15)
theorem uf73b23 (P ts os Q) : awl P f73b23 Q ts os = awl P (.seq f73b22 f73b15) Q ts os := id rfl
def f73b24 : AQ := (.block 0 f73b23)
theorem uf73b24 (P ts os Q) : awl P f73b24 Q ts os = awl P (.block 0 f73b23) Q ts os := id rfl
def f73r25 : List AI := [⟨none, (.mov 3 (.t 0))⟩]
theorem uf73r25 : type_of% @f73r25.eq_1 := id @f73r25.eq_1
def f73b26 : AQ := (.seq (.region f73r25) f73b24)
theorem uf73b26 (P ts os Q) : awl P f73b26 Q ts os = awl P (.seq (.region f73r25) f73b24) Q ts os := id rfl
def f73b27 : AQ := (.seq f73b26 f73b2)
theorem uf73b27 (P ts os Q) : awl P f73b27 Q ts os = awl P (.seq f73b26 f73b2) Q ts os := id rfl
def f73r28 : List AI := [⟨none, (.mov 2 (.v (.k (.c (.int .i64 0)))))⟩]
theorem uf73r28 : type_of% @f73r28.eq_1 := id @f73r28.eq_1
def f73b29 : AQ := (.seq (.region f73r28) f73b27)
theorem uf73b29 (P ts os Q) : awl P f73b29 Q ts os = awl P (.seq (.region f73r28) f73b27) Q ts os := id rfl
def f73 : AQ := f73b29
theorem uf73 (P ts os Q) : awl P f73 Q ts os = awl P f73b29 Q ts os := id rfl
theorem hf73 : cFunc Try.prog 73 = some ⟨12, f73.erase, [(RX.t 2)]⟩ := by kernel_rfl
theorem okf73 : f73.ok = true := by kernel_rfl
def f74r1 : List AI := [⟨none, (.mov 36 (.t 4))⟩, ⟨none, (.mov 2 (.t 36))⟩, ⟨none, (.mov 3 (.v (.k (.c (.int .i64 0)))))⟩]
theorem uf74r1 : type_of% @f74r1.eq_1 := id @f74r1.eq_1
def f74b2 : AQ := (.seq (.region f74r1) .ret)
theorem uf74b2 (P ts os Q) : awl P f74b2 Q ts os = awl P (.seq (.region f74r1) .ret) Q ts os := id rfl
def f74r3 : List AI := [⟨none, (.mov 2 (.v (.k (.c (.int .i64 0)))))⟩, ⟨none, (.mov 3 (.v (.k (.c (.int .i64 10)))))⟩]
theorem uf74r3 : type_of% @f74r3.eq_1 := id @f74r3.eq_1
def f74b4 : AQ := (.seq (.region f74r3) .ret)
theorem uf74b4 (P ts os Q) : awl P f74b4 Q ts os = awl P (.seq (.region f74r3) .ret) Q ts os := id rfl
def f74b5 : AQ := (.cond (.t 35) f74b4 .skip)
theorem uf74b5 (P ts os Q) : awl P f74b5 Q ts os = awl P (.cond (.t 35) f74b4 .skip) Q ts os := id rfl
def f74r6 : List AI := [⟨none, (.mov 34 (.t 5))⟩, ⟨none, (.un 35 .not (.t 34))⟩]
theorem uf74r6 : type_of% @f74r6.eq_1 := id @f74r6.eq_1
def f74b7 : AQ := (.seq (.region f74r6) f74b5)
theorem uf74b7 (P ts os Q) : awl P f74b7 Q ts os = awl P (.seq (.region f74r6) f74b5) Q ts os := id rfl
def f74b8 : AQ := (.seq f74b7 f74b2)
theorem uf74b8 (P ts os Q) : awl P f74b8 Q ts os = awl P (.seq f74b7 f74b2) Q ts os := id rfl
def f74r9 : List AI := [⟨none, (.faddr 29 1 (.t 1))⟩, ⟨none, (.load 30 1 false (.t 29))⟩, ⟨none, (.call (some 31) 34 [(.t 30)])⟩, ⟨none, (.mov 28 (.t 31))⟩, ⟨none, (.extr 32 (.t 28) 0)⟩, ⟨none, (.extr 33 (.t 28) 1)⟩, ⟨none, (.mov 4 (.t 32))⟩, ⟨none, (.mov 5 (.t 33))⟩]
theorem uf74r9 : type_of% @f74r9.eq_1 := id @f74r9.eq_1
def f74b10 : AQ := (.seq (.region f74r9) f74b8)
theorem uf74b10 (P ts os Q) : awl P f74b10 Q ts os = awl P (.seq (.region f74r9) f74b8) Q ts os := id rfl
def f74r11 : List AI := [⟨none, (.mov 2 (.v (.k (.c (.int .i64 1)))))⟩, ⟨none, (.mov 3 (.v (.k (.c (.int .i64 0)))))⟩]
theorem uf74r11 : type_of% @f74r11.eq_1 := id @f74r11.eq_1
def f74b12 : AQ := (.seq (.region f74r11) .ret)
theorem uf74b12 (P ts os Q) : awl P f74b12 Q ts os = awl P (.seq (.region f74r11) .ret) Q ts os := id rfl
def f74r13 : List AI := [⟨none, (.mov 2 (.v (.k (.c (.int .i64 0)))))⟩, ⟨none, (.mov 3 (.v (.k (.c (.int .i64 3)))))⟩]
theorem uf74r13 : type_of% @f74r13.eq_1 := id @f74r13.eq_1
def f74b14 : AQ := (.seq (.region f74r13) .ret)
theorem uf74b14 (P ts os Q) : awl P f74b14 Q ts os = awl P (.seq (.region f74r13) .ret) Q ts os := id rfl
def f74b15 : AQ := (.cond (.t 27) f74b14 .skip)
theorem uf74b15 (P ts os Q) : awl P f74b15 Q ts os = awl P (.cond (.t 27) f74b14 .skip) Q ts os := id rfl
def f74r16 : List AI := [⟨none, (.faddr 20 1 (.t 1))⟩, ⟨none, (.load 21 1 false (.t 20))⟩, ⟨none, (.bin 22 .neq (.t 21) (.v (.k (.c (.int .i64 0)))))⟩, ⟨none, (.mov 23 (.t 22))⟩, ⟨(some (23, true)), (.faddr 24 1 (.t 1))⟩, ⟨(some (23, true)), (.load 25 1 false (.t 24))⟩, ⟨(some (23, true)), (.bin 26 .neq (.t 25) (.v (.k (.c (.int .i64 1)))))⟩, ⟨none, (.pick 27 (.t 23) (.t 26) (.v (.k (.c (.bool false)))))⟩]
theorem uf74r16 : type_of% @f74r16.eq_1 := id @f74r16.eq_1
def f74b17 : AQ := (.seq (.region f74r16) f74b15)
theorem uf74b17 (P ts os Q) : awl P f74b17 Q ts os = awl P (.seq (.region f74r16) f74b15) Q ts os := id rfl
def f74b18 : AQ := (.seq f74b17 f74b12)
theorem uf74b18 (P ts os Q) : awl P f74b18 Q ts os = awl P (.seq f74b17 f74b12) Q ts os := id rfl
def f74b19 : AQ := (.cond (.t 19) f74b18 .skip)
theorem uf74b19 (P ts os Q) : awl P f74b19 Q ts os = awl P (.cond (.t 19) f74b18 .skip) Q ts os := id rfl
def f74r20 : List AI := [⟨none, (.faddr 17 0 (.t 1))⟩, ⟨none, (.load 18 1 false (.t 17))⟩, ⟨none, (.bin 19 .eql (.t 18) (.v (.k (.c (.int .i64 1)))))⟩]
theorem uf74r20 : type_of% @f74r20.eq_1 := id @f74r20.eq_1
def f74b21 : AQ := (.seq (.region f74r20) f74b19)
theorem uf74b21 (P ts os Q) : awl P f74b21 Q ts os = awl P (.seq (.region f74r20) f74b19) Q ts os := id rfl
def f74b22 : AQ := (.seq f74b21 f74b10)
theorem uf74b22 (P ts os Q) : awl P f74b22 Q ts os = awl P (.seq f74b21 f74b10) Q ts os := id rfl
def f74r23 : List AI := [⟨none, (.mov 2 (.v (.k (.c (.int .i64 0)))))⟩, ⟨none, (.mov 3 (.v (.k (.c (.int .i64 0)))))⟩]
theorem uf74r23 : type_of% @f74r23.eq_1 := id @f74r23.eq_1
def f74b24 : AQ := (.seq (.region f74r23) .ret)
theorem uf74b24 (P ts os Q) : awl P f74b24 Q ts os = awl P (.seq (.region f74r23) .ret) Q ts os := id rfl
def f74r25 : List AI := [⟨none, (.mov 2 (.v (.k (.c (.int .i64 0)))))⟩, ⟨none, (.mov 3 (.v (.k (.c (.int .i64 3)))))⟩]
theorem uf74r25 : type_of% @f74r25.eq_1 := id @f74r25.eq_1
def f74b26 : AQ := (.seq (.region f74r25) .ret)
theorem uf74b26 (P ts os Q) : awl P f74b26 Q ts os = awl P (.seq (.region f74r25) .ret) Q ts os := id rfl
def f74b27 : AQ := (.cond (.t 16) f74b26 .skip)
theorem uf74b27 (P ts os Q) : awl P f74b27 Q ts os = awl P (.cond (.t 16) f74b26 .skip) Q ts os := id rfl
def f74r28 : List AI := [⟨none, (.faddr 9 1 (.t 1))⟩, ⟨none, (.load 10 1 false (.t 9))⟩, ⟨none, (.bin 11 .lss (.t 10) (.v (.k (.c (.int .i64 (-1099511627776))))))⟩, ⟨none, (.mov 12 (.t 11))⟩, ⟨(some (12, false)), (.faddr 13 1 (.t 1))⟩, ⟨(some (12, false)), (.load 14 1 false (.t 13))⟩, ⟨(some (12, false)), (.bin 15 .gtr (.t 14) (.v (.k (.c (.int .i64 1099511627776)))))⟩, ⟨none, (.pick 16 (.t 12) (.v (.k (.c (.bool true)))) (.t 15))⟩]
theorem uf74r28 : type_of% @f74r28.eq_1 := id @f74r28.eq_1
def f74b29 : AQ := (.seq (.region f74r28) f74b27)
theorem uf74b29 (P ts os Q) : awl P f74b29 Q ts os = awl P (.seq (.region f74r28) f74b27) Q ts os := id rfl
def f74b30 : AQ := (.seq f74b29 f74b24)
theorem uf74b30 (P ts os Q) : awl P f74b30 Q ts os = awl P (.seq f74b29 f74b24) Q ts os := id rfl
def f74b31 : AQ := (.cond (.t 8) f74b30 .skip)
theorem uf74b31 (P ts os Q) : awl P f74b31 Q ts os = awl P (.cond (.t 8) f74b30 .skip) Q ts os := id rfl
def f74r32 : List AI := [⟨none, (.faddr 6 0 (.t 1))⟩, ⟨none, (.load 7 1 false (.t 6))⟩, ⟨none, (.bin 8 .eql (.t 7) (.v (.k (.c (.int .i64 0)))))⟩]
theorem uf74r32 : type_of% @f74r32.eq_1 := id @f74r32.eq_1
def f74b33 : AQ := (.seq (.region f74r32) f74b31)
theorem uf74b33 (P ts os Q) : awl P f74b33 Q ts os = awl P (.seq (.region f74r32) f74b31) Q ts os := id rfl
def f74b34 : AQ := (.seq f74b33 f74b22)
theorem uf74b34 (P ts os Q) : awl P f74b34 Q ts os = awl P (.seq f74b33 f74b22) Q ts os := id rfl
def f74r35 : List AI := [⟨none, (.box 1 41 (.t 0))⟩, ⟨none, (.mov 2 (.v (.k (.c (.int .i64 0)))))⟩, ⟨none, (.mov 3 (.v (.k (.c (.int .i64 0)))))⟩]
theorem uf74r35 : type_of% @f74r35.eq_1 := id @f74r35.eq_1
def f74b36 : AQ := (.seq (.region f74r35) f74b34)
theorem uf74b36 (P ts os Q) : awl P f74b36 Q ts os = awl P (.seq (.region f74r35) f74b34) Q ts os := id rfl
def f74 : AQ := f74b36
theorem uf74 (P ts os Q) : awl P f74 Q ts os = awl P f74b36 Q ts os := id rfl
theorem hf74 : cFunc Try.prog 74 = some ⟨37, f74.erase, [(RX.t 2), (RX.t 3)]⟩ := by kernel_rfl
theorem okf74 : f74.ok = true := by kernel_rfl
def f75r1 : List AI := [⟨none, (.mov 65 (.t 1))⟩, ⟨none, (.iaddr 66 1 (.t 65) (.v (.k (.c (.int .i64 0)))))⟩, ⟨none, (.load 67 1 false (.t 66))⟩, ⟨none, (.bin 68 .eql (.t 67) (.v (.k (.c (.int .i64 0)))))⟩, ⟨none, (.mov 69 (.t 68))⟩, ⟨(some (69, true)), (.mov 70 (.t 1))⟩, ⟨(some (69, true)), (.iaddr 71 1 (.t 70) (.v (.k (.c (.int .i64 1)))))⟩, ⟨(some (69, true)), (.load 72 1 false (.t 71))⟩, ⟨(some (69, true)), (.bin 73 .eql (.t 72) (.v (.k (.c (.int .i64 0)))))⟩, ⟨none, (.pick 74 (.t 69) (.t 73) (.v (.k (.c (.bool false)))))⟩, ⟨none, (.mov 4 (.v (.k (.c (.int .i64 0)))))⟩, ⟨none, (.mov 5 (.t 74))⟩]
theorem uf75r1 : type_of% @f75r1.eq_1 := id @f75r1.eq_1
def f75b2 : AQ := (.seq (.draw f75r1 [[], [0], [1], [2], [3], [4], [5, 4], [6, 4], [7, 4], [4, 8], [4], [9, 10, 0, 1, 2, 3, 4, 5, 6, 7, 8, 9, 10]]) .ret)
theorem uf75b2 (P ts os Q) : awl P f75b2 Q ts os = awl P (.seq (.draw f75r1 [[], [0], [1], [2], [3], [4], [5, 4], [6, 4], [7, 4], [4, 8], [4], [9, 10, 0, 1, 2, 3, 4, 5, 6, 7, 8, 9, 10]]) .ret) Q ts os := id rfl
def f75r3 : List AI := [⟨none, (.mov 9 (.t 1))⟩, ⟨none, (.iaddr 10 1 (.t 9) (.v (.k (.c (.int .i64 0)))))⟩, ⟨none, (.load 11 1 false (.t 10))⟩, ⟨none, (.bin 12 .eql (.t 11) (.v (.k (.c (.int .i64 1)))))⟩, ⟨none, (.mov 4 (.v (.k (.c (.int .i64 1)))))⟩, ⟨none, (.mov 5 (.t 12))⟩]
theorem uf75r3 : type_of% @f75r3.eq_1 := id @f75r3.eq_1
def f75b4 : AQ := (.seq (.draw f75r3 [[], [0], [1], [2], [], [3, 4, 0, 1, 2, 3, 4]]) .ret)
theorem uf75b4 (P ts os Q) : awl P f75b4 Q ts os = awl P (.seq (.draw f75r3 [[], [0], [1], [2], [], [3, 4, 0, 1, 2, 3, 4]]) .ret) Q ts os := id rfl
def f75r5 : List AI := [⟨none, (.mov 16 (.t 1))⟩, ⟨none, (.iaddr 17 1 (.t 16) (.v (.k (.c (.int .i64 0)))))⟩, ⟨none, (.load 18 1 false (.t 17))⟩, ⟨none, (.bin 19 .eql (.t 18) (.v (.k (.c (.int .i64 1)))))⟩, ⟨none, (.mov 20 (.t 19))⟩, ⟨(some (20, true)), (.mov 21 (.t 1))⟩, ⟨(some (20, true)), (.iaddr 22 1 (.t 21) (.v (.k (.c (.int .i64 1)))))⟩, ⟨(some (20, true)), (.load 23 1 false (.t 22))⟩, ⟨(some (20, true)), (.bin 24 .eql (.t 23) (.v (.k (.c (.int .i64 1)))))⟩, ⟨none, (.pick 25 (.t 20) (.t 24) (.v (.k (.c (.bool false)))))⟩, ⟨none, (.mov 4 (.v (.k (.c (.int .i64 1)))))⟩, ⟨none, (.mov 5 (.t 25))⟩]
theorem uf75r5 : type_of% @f75r5.eq_1 := id @f75r5.eq_1
def f75b6 : AQ := (.seq (.draw f75r5 [[], [0], [1], [2], [3], [4], [5, 4], [6, 4], [7, 4], [4, 8], [4], [9, 10, 0, 1, 2, 3, 4, 5, 6, 7, 8, 9, 10]]) .ret)
theorem uf75b6 (P ts os Q) : awl P f75b6 Q ts os = awl P (.seq (.draw f75r5 [[], [0], [1], [2], [3], [4], [5, 4], [6, 4], [7, 4], [4, 8], [4], [9, 10, 0, 1, 2, 3, 4, 5, 6, 7, 8, 9, 10]]) .ret) Q ts os := id rfl
def f75r7 : List AI := [⟨none, (.mov 28 (.t 1))⟩, ⟨none, (.iaddr 29 1 (.t 28) (.v (.k (.c (.int .i64 1)))))⟩, ⟨none, (.load 30 1 false (.t 29))⟩, ⟨none, (.mov 31 (.t 1))⟩, ⟨none, (.iaddr 32 1 (.t 31) (.v (.k (.c (.int .i64 0)))))⟩, ⟨none, (.load 33 1 false (.t 32))⟩, ⟨none, (.bin 34 .eql (.t 33) (.v (.k (.c (.int .i64 1)))))⟩, ⟨none, (.mov 35 (.t 34))⟩, ⟨(some (35, true)), (.mov 36 (.t 1))⟩, ⟨(some (35, true)), (.iaddr 37 1 (.t 36) (.v (.k (.c (.int .i64 1)))))⟩, ⟨(some (35, true)), (.load 38 1 false (.t 37))⟩, ⟨(some (35, true)), (.mov 39 (.t 1))⟩, ⟨(some (35, true)), (.iaddr 40 1 (.t 39) (.v (.k (.c (.int .i64 2)))))⟩, ⟨(some (35, true)), (.load 41 1 false (.t 40))⟩, ⟨(some (35, true)), (.bin 42 .eql (.t 38) (.t 41))⟩, ⟨none, (.pick 43 (.t 35) (.t 42) (.v (.k (.c (.bool false)))))⟩, ⟨none, (.mov 4 (.t 30))⟩, ⟨none, (.mov 5 (.t 43))⟩]
theorem uf75r7 : type_of% @f75r7.eq_1 := id @f75r7.eq_1
def f75b8 : AQ := (.seq (.draw f75r7 [[], [0], [1], [], [3], [4], [5], [6], [7], [8, 7], [9, 7], [7], [11, 7], [12, 7], [10, 13, 7], [7, 14], [2, 7, 0, 1, 2], [15, 16, 0, 1, 2, 3, 4, 5, 6, 7, 8, 9, 10, 11, 12, 13, 14, 15, 16]]) .ret)
theorem uf75b8 (P ts os Q) : awl P f75b8 Q ts os = awl P (.seq (.draw f75r7 [[], [0], [1], [], [3], [4], [5], [6], [7], [8, 7], [9, 7], [7], [11, 7], [12, 7], [10, 13, 7], [7, 14], [2, 7, 0, 1, 2], [15, 16, 0, 1, 2, 3, 4, 5, 6, 7, 8, 9, 10, 11, 12, 13, 14, 15, 16]]) .ret) Q ts os := id rfl
def f75r9 : List AI := [⟨none, (.mov 46 (.t 1))⟩, ⟨none, (.iaddr 47 1 (.t 46) (.v (.k (.c (.int .i64 0)))))⟩, ⟨none, (.load 48 1 false (.t 47))⟩, ⟨none, (.bin 49 .eql (.t 48) (.v (.k (.c (.int .i64 0)))))⟩, ⟨none, (.mov 50 (.t 49))⟩, ⟨(some (50, true)), (.mov 51 (.t 1))⟩, ⟨(some (50, true)), (.iaddr 52 1 (.t 51) (.v (.k (.c (.int .i64 1)))))⟩, ⟨(some (50, true)), (.load 53 1 false (.t 52))⟩, ⟨(some (50, true)), (.bin 54 .eql (.t 53) (.v (.k (.c (.int .i64 0)))))⟩, ⟨none, (.pick 55 (.t 50) (.t 54) (.v (.k (.c (.bool false)))))⟩, ⟨none, (.mov 4 (.v (.k (.c (.int .i64 1)))))⟩, ⟨none, (.mov 5 (.t 55))⟩]
theorem uf75r9 : type_of% @f75r9.eq_1 := id @f75r9.eq_1
def f75b10 : AQ := (.seq (.draw f75r9 [[], [0], [1], [2], [3], [4], [5, 4], [6, 4], [7, 4], [4, 8], [4], [9, 10, 0, 1, 2, 3, 4, 5, 6, 7, 8, 9, 10]]) .ret)
theorem uf75b10 (P ts os Q) : awl P f75b10 Q ts os = awl P (.seq (.draw f75r9 [[], [0], [1], [2], [3], [4], [5, 4], [6, 4], [7, 4], [4, 8], [4], [9, 10, 0, 1, 2, 3, 4, 5, 6, 7, 8, 9, 10]]) .ret) Q ts os := id rfl
def f75r11 : List AI := [⟨none, (.mov 58 (.t 1))⟩, ⟨none, (.iaddr 59 1 (.t 58) (.v (.k (.c (.int .i64 0)))))⟩, ⟨none, (.load 60 1 false (.t 59))⟩, ⟨none, (.mov 61 (.t 1))⟩, ⟨none, (.iaddr 62 1 (.t 61) (.v (.k (.c (.int .i64 1)))))⟩, ⟨none, (.load 63 1 false (.t 62))⟩, ⟨none, (.bin 64 .eql (.t 60) (.t 63))⟩, ⟨none, (.mov 4 (.v (.k (.c (.int .i64 1)))))⟩, ⟨none, (.mov 5 (.t 64))⟩]
theorem uf75r11 : type_of% @f75r11.eq_1 := id @f75r11.eq_1
def f75b12 : AQ := (.seq (.draw f75r11 [[], [0], [1], [], [3], [4], [2, 5], [], [6, 7, 0, 1, 2, 3, 4, 5, 6, 7]]) .ret)
theorem uf75b12 (P ts os Q) : awl P f75b12 Q ts os = awl P (.seq (.draw f75r11 [[], [0], [1], [], [3], [4], [2, 5], [], [6, 7, 0, 1, 2, 3, 4, 5, 6, 7]]) .ret) Q ts os := id rfl
def f75b13 : AQ := (.cond (.t 56) f75b12 .skip)
theorem uf75b13 (P ts os Q) : awl P f75b13 Q ts os = awl P (.cond (.t 56) f75b12 .skip) Q ts os := id rfl
def f75r14 : List AI := [⟨none, (.bin 57 .eql (.t 6) (.v (.k (.c (.int .i64 8)))))⟩, ⟨none, (.mov 56 (.t 57))⟩]
theorem uf75r14 : type_of% @f75r14.eq_1 := id @f75r14.eq_1
def f75b15 : AQ := (.seq (.region f75r14) f75b13)
theorem uf75b15 (P ts os Q) : awl P f75b15 Q ts os = awl P (.seq (.region f75r14) f75b13) Q ts os := id rfl
def f75b16 : AQ := (.cond (.t 44) f75b10 f75b15)
theorem uf75b16 (P ts os Q) : awl P f75b16 Q ts os = awl P (.cond (.t 44) f75b10 f75b15) Q ts os := id rfl
def f75r17 : List AI := [⟨none, (.bin 45 .eql (.t 6) (.v (.k (.c (.int .i64 7)))))⟩, ⟨none, (.mov 44 (.t 45))⟩]
theorem uf75r17 : type_of% @f75r17.eq_1 := id @f75r17.eq_1
def f75b18 : AQ := (.seq (.region f75r17) f75b16)
theorem uf75b18 (P ts os Q) : awl P f75b18 Q ts os = awl P (.seq (.region f75r17) f75b16) Q ts os := id rfl
def f75b19 : AQ := (.cond (.t 26) f75b8 f75b18)
theorem uf75b19 (P ts os Q) : awl P f75b19 Q ts os = awl P (.cond (.t 26) f75b8 f75b18) Q ts os := id rfl
def f75r20 : List AI := [⟨none, (.bin 27 .eql (.t 6) (.v (.k (.c (.int .i64 6)))))⟩, ⟨none, (.mov 26 (.t 27))⟩]
theorem uf75r20 : type_of% @f75r20.eq_1 := id @f75r20.eq_1
def f75b21 : AQ := (.seq (.region f75r20) f75b19)
theorem uf75b21 (P ts os Q) : awl P f75b21 Q ts os = awl P (.seq (.region f75r20) f75b19) Q ts os := id rfl
def f75b22 : AQ := (.cond (.t 13) f75b6 f75b21)
theorem uf75b22 (P ts os Q) : awl P f75b22 Q ts os = awl P (.cond (.t 13) f75b6 f75b21) Q ts os := id rfl
def f75r23 : List AI := [⟨none, (.bin 15 .eql (.t 6) (.v (.k (.c (.int .i64 5)))))⟩, ⟨none, (.mov 13 (.t 15))⟩]
theorem uf75r23 : type_of% @f75r23.eq_1 := id @f75r23.eq_1
def f75b24 : AQ := (.cond (.t 13) .skip (.region f75r23))
theorem uf75b24 (P ts os Q) : awl P f75b24 Q ts os = awl P (.cond (.t 13) .skip (.region f75r23)) Q ts os := id rfl
def f75r25 : List AI := [⟨none, (.bin 14 .eql (.t 6) (.v (.k (.c (.int .i64 4)))))⟩, ⟨none, (.mov 13 (.t 14))⟩]
theorem uf75r25 : type_of% @f75r25.eq_1 := id @f75r25.eq_1
def f75b26 : AQ := (.seq (.region f75r25) f75b24)
theorem uf75b26 (P ts os Q) : awl P f75b26 Q ts os = awl P (.seq (.region f75r25) f75b24) Q ts os := id rfl
def f75b27 : AQ := (.seq f75b26 f75b22)
theorem uf75b27 (P ts os Q) : awl P f75b27 Q ts os = awl P (.seq f75b26 f75b22) Q ts os := id rfl
def f75b28 : AQ := (.cond (.t 7) f75b4 f75b27)
theorem uf75b28 (P ts os Q) : awl P f75b28 Q ts os = awl P (.cond (.t 7) f75b4 f75b27) Q ts os := id rfl
def f75r29 : List AI := [⟨none, (.bin 8 .eql (.t 6) (.v (.k (.c (.int .i64 3)))))⟩, ⟨none, (.mov 7 (.t 8))⟩]
theorem uf75r29 : type_of% @f75r29.eq_1 := id @f75r29.eq_1
def f75b30 : AQ := (.seq (.region f75r29) f75b28)
theorem uf75b30 (P ts os Q) : awl P f75b30 Q ts os = awl P (.seq (.region f75r29) f75b28) Q ts os := id rfl
def f75b31 : AQ := (.block 0 f75b30)
theorem uf75b31 (P ts os Q) : awl P f75b31 Q ts os = awl P (.block 0 f75b30) Q ts os := id rfl
def f75r32 : List AI := [⟨none, (.mov 6 (.t 0))⟩]
theorem uf75r32 : type_of% @f75r32.eq_1 := id @f75r32.eq_1
def f75b33 : AQ := (.seq (.region f75r32) f75b31)
theorem uf75b33 (P ts os Q) : awl P f75b33 Q ts os = awl P (.seq (.region f75r32) f75b31) Q ts os := id rfl
def f75b34 : AQ := (.seq f75b33 f75b2)
theorem uf75b34 (P ts os Q) : awl P f75b34 Q ts os = awl P (.seq f75b33 f75b2) Q ts os := id rfl
def f75r35 : List AI := [⟨none, (.mov 4 (.v (.k (.c (.int .i64 0)))))⟩, ⟨none, (.mov 5 (.v (.k (.c (.bool false)))))⟩]
theorem uf75r35 : type_of% @f75r35.eq_1 := id @f75r35.eq_1
def f75b36 : AQ := (.seq (.region f75r35) f75b34)
theorem uf75b36 (P ts os Q) : awl P f75b36 Q ts os = awl P (.seq (.region f75r35) f75b34) Q ts os := id rfl
def f75 : AQ := f75b36
theorem uf75 (P ts os Q) : awl P f75 Q ts os = awl P f75b36 Q ts os := id rfl
theorem hf75 : cFunc Try.prog 75 = some ⟨75, f75.erase, [(RX.t 4), (RX.t 5)]⟩ := by kernel_rfl
theorem okf75 : f75.ok = true := by kernel_rfl
def f76r1 : List AI := [⟨none, (.faddr 37 0 (.t 2))⟩, ⟨none, (.load 38 1 false (.t 37))⟩, ⟨none, (.mov 39 (.t 1))⟩, ⟨none, (.iaddr 40 2 (.t 38) (.t 39))⟩, ⟨none, (.faddr 41 1 (.t 40))⟩, ⟨none, (.load 42 1 false (.t 41))⟩, ⟨none, (.call (some 43) 93 [(.t 42)])⟩, ⟨none, (.build 44 [(.bool false), (.int .i64 0)] [(0, (1, (.v (.k (.c (.bool true)))))), (1, (1, (.t 43)))])⟩, ⟨none, (.store 2 (.t 4) (.t 44))⟩]
theorem uf76r1 : type_of% @f76r1.eq_1 := id @f76r1.eq_1
def f76b2 : AQ := (.seq (.region f76r1) .ret)
theorem uf76b2 (P ts os Q) : awl P f76b2 Q ts os = awl P (.seq (.region f76r1) .ret) Q ts os := id rfl
def f76r3 : List AI := [⟨none, (.faddr 29 0 (.t 2))⟩, ⟨none, (.load 30 1 false (.t 29))⟩, ⟨none, (.mov 31 (.t 1))⟩, ⟨none, (.iaddr 32 2 (.t 30) (.t 31))⟩, ⟨none, (.faddr 33 1 (.t 32))⟩, ⟨none, (.load 34 1 false (.t 33))⟩, ⟨none, (.bin 35 .neq (.t 34) (.v (.k (.c (.int .i64 0)))))⟩, ⟨none, (.call (some 36) 94 [(.t 35)])⟩, ⟨none, (.store 2 (.t 4) (.t 36))⟩]
theorem uf76r3 : type_of% @f76r3.eq_1 := id @f76r3.eq_1
def f76b4 : AQ := (.seq (.region f76r3) .ret)
theorem uf76b4 (P ts os Q) : awl P f76b4 Q ts os = awl P (.seq (.region f76r3) .ret) Q ts os := id rfl
def f76b5 : AQ := (.cond (.t 28) f76b4 .skip)
theorem uf76b5 (P ts os Q) : awl P f76b5 Q ts os = awl P (.cond (.t 28) f76b4 .skip) Q ts os := id rfl
def f76r6 : List AI := [⟨none, (.mov 27 (.t 5))⟩, ⟨none, (.bin 28 .eql (.t 27) (.v (.k (.c (.int .i64 1)))))⟩]
theorem uf76r6 : type_of% @f76r6.eq_1 := id @f76r6.eq_1
def f76b7 : AQ := (.seq (.region f76r6) f76b5)
theorem uf76b7 (P ts os Q) : awl P f76b7 Q ts os = awl P (.seq (.region f76r6) f76b5) Q ts os := id rfl
def f76r8 : List AI := [⟨none, (.mov 23 (.t 1))⟩, ⟨none, (.call (some 24) 33 [(.t 23)])⟩, ⟨none, (.mov 22 (.t 24))⟩, ⟨none, (.extr 25 (.t 22) 0)⟩, ⟨none, (.extr 26 (.t 22) 1)⟩, ⟨none, (.mov 5 (.t 25))⟩, ⟨none, (.mov 6 (.t 26))⟩]
theorem uf76r8 : type_of% @f76r8.eq_1 := id @f76r8.eq_1
def f76b9 : AQ := (.seq (.region f76r8) f76b7)
theorem uf76b9 (P ts os Q) : awl P f76b9 Q ts os = awl P (.seq (.region f76r8) f76b7) Q ts os := id rfl
def f76b10 : AQ := (.seq f76b9 f76b2)
theorem uf76b10 (P ts os Q) : awl P f76b10 Q ts os = awl P (.seq f76b9 f76b2) Q ts os := id rfl
def f76r11 : List AI := [⟨none, (.build 21 [(.bool false), (.int .i64 0)] [])⟩, ⟨none, (.store 2 (.t 4) (.t 21))⟩]
theorem uf76r11 : type_of% @f76r11.eq_1 := id @f76r11.eq_1
def f76b12 : AQ := (.seq (.region f76r11) .ret)
theorem uf76b12 (P ts os Q) : awl P f76b12 Q ts os = awl P (.seq (.region f76r11) .ret) Q ts os := id rfl
def f76b13 : AQ := (.cond (.t 20) f76b12 .skip)
theorem uf76b13 (P ts os Q) : awl P f76b13 Q ts os = awl P (.cond (.t 20) f76b12 .skip) Q ts os := id rfl
def f76r14 : List AI := [⟨none, (.mov 7 (.t 1))⟩, ⟨none, (.faddr 8 0 (.t 2))⟩, ⟨none, (.load 9 1 false (.t 8))⟩, ⟨none, (.len 10 (.t 9))⟩, ⟨none, (.bin 11 .geq (.t 7) (.t 10))⟩, ⟨none, (.mov 12 (.t 11))⟩, ⟨(some (12, false)), (.faddr 13 0 (.t 2))⟩, ⟨(some (12, false)), (.load 14 1 false (.t 13))⟩, ⟨(some (12, false)), (.mov 15 (.t 1))⟩, ⟨(some (12, false)), (.iaddr 16 2 (.t 14) (.t 15))⟩, ⟨(some (12, false)), (.faddr 17 0 (.t 16))⟩, ⟨(some (12, false)), (.load 18 1 false (.t 17))⟩, ⟨(some (12, false)), (.un 19 .not (.t 18))⟩, ⟨none, (.pick 20 (.t 12) (.v (.k (.c (.bool true)))) (.t 19))⟩]
theorem uf76r14 : type_of% @f76r14.eq_1 := id @f76r14.eq_1
def f76b15 : AQ := (.seq (.region f76r14) f76b13)
theorem uf76b15 (P ts os Q) : awl P f76b15 Q ts os = awl P (.seq (.region f76r14) f76b13) Q ts os := id rfl
def f76b16 : AQ := (.seq f76b15 f76b10)
theorem uf76b16 (P ts os Q) : awl P f76b16 Q ts os = awl P (.seq f76b15 f76b10) Q ts os := id rfl
def f76r17 : List AI := [⟨none, (.box 2 83 (.t 0))⟩, ⟨none, (.alloc 4 53 [(.bool false), (.int .i64 0)])⟩]
theorem uf76r17 : type_of% @f76r17.eq_1 := id @f76r17.eq_1
def f76b18 : AQ := (.seq (.region f76r17) f76b16)
theorem uf76b18 (P ts os Q) : awl P f76b18 Q ts os = awl P (.seq (.region f76r17) f76b16) Q ts os := id rfl
def f76 : AQ := f76b18
theorem uf76 (P ts os Q) : awl P f76 Q ts os = awl P f76b18 Q ts os := id rfl
theorem hf76 : cFunc Try.prog 76 = some ⟨45, f76.erase, [(RX.cell 4 2 true)]⟩ := by kernel_rfl
theorem okf76 : f76.ok = true := by kernel_rfl
def f77r1 : List AI := [⟨none, (.mov 100 (.t 0))⟩, ⟨none, (.mov 101 (.t 6))⟩, ⟨none, (.mov 102 (.t 7))⟩, ⟨none, (.call (some 103) 95 [(.t 100), (.t 101), (.t 102)])⟩, ⟨none, (.build 104 [(.bool false), (.int .i64 0)] [(0, (1, (.v (.k (.c (.bool true)))))), (1, (1, (.t 103)))])⟩, ⟨none, (.store 2 (.t 4) (.t 104))⟩]
theorem uf77r1 : type_of% @f77r1.eq_1 := id @f77r1.eq_1
def f77b2 : AQ := (.seq (.region f77r1) .ret)
theorem uf77b2 (P ts os Q) : awl P f77b2 Q ts os = awl P (.seq (.region f77r1) .ret) Q ts os := id rfl
def f77r3 : List AI := [⟨none, (.mov 85 (.t 0))⟩, ⟨none, (.bin 86 .eql (.t 85) (.v (.k (.c (.int .i64 4)))))⟩, ⟨none, (.call (some 87) 94 [(.t 86)])⟩, ⟨none, (.store 2 (.t 4) (.t 87))⟩]
theorem uf77r3 : type_of% @f77r3.eq_1 := id @f77r3.eq_1
def f77b4 : AQ := (.seq (.region f77r3) .ret)
theorem uf77b4 (P ts os Q) : awl P f77b4 Q ts os = awl P (.seq (.region f77r3) .ret) Q ts os := id rfl
def f77r5 : List AI := [⟨none, (.mov 90 (.t 6))⟩, ⟨none, (.mov 91 (.t 7))⟩, ⟨none, (.bin 92 .lss (.t 90) (.t 91))⟩, ⟨none, (.call (some 93) 94 [(.t 92)])⟩, ⟨none, (.store 2 (.t 4) (.t 93))⟩]
theorem uf77r5 : type_of% @f77r5.eq_1 := id @f77r5.eq_1
def f77b6 : AQ := (.seq (.region f77r5) .ret)
theorem uf77b6 (P ts os Q) : awl P f77b6 Q ts os = awl P (.seq (.region f77r5) .ret) Q ts os := id rfl
def f77r7 : List AI := [⟨none, (.mov 96 (.t 6))⟩, ⟨none, (.mov 97 (.t 7))⟩, ⟨none, (.bin 98 .eql (.t 96) (.t 97))⟩, ⟨none, (.call (some 99) 94 [(.t 98)])⟩, ⟨none, (.store 2 (.t 4) (.t 99))⟩]
theorem uf77r7 : type_of% @f77r7.eq_1 := id @f77r7.eq_1
def f77b8 : AQ := (.seq (.region f77r7) .ret)
theorem uf77b8 (P ts os Q) : awl P f77b8 Q ts os = awl P (.seq (.region f77r7) .ret) Q ts os := id rfl
def f77b9 : AQ := (.cond (.t 94) f77b8 .skip)
theorem uf77b9 (P ts os Q) : awl P f77b9 Q ts os = awl P (.cond (.t 94) f77b8 .skip) Q ts os := id rfl
def f77r10 : List AI := [⟨none, (.bin 95 .eql (.t 81) (.v (.k (.c (.int .i64 8)))))⟩, ⟨none, (.mov 94 (.t 95))⟩]
theorem uf77r10 : type_of% @f77r10.eq_1 := id @f77r10.eq_1
def f77b11 : AQ := (.seq (.region f77r10) f77b9)
theorem uf77b11 (P ts os Q) : awl P f77b11 Q ts os = awl P (.seq (.region f77r10) f77b9) Q ts os := id rfl
def f77b12 : AQ := (.cond (.t 88) f77b6 f77b11)
theorem uf77b12 (P ts os Q) : awl P f77b12 Q ts os = awl P (.cond (.t 88) f77b6 f77b11) Q ts os := id rfl
def f77r13 : List AI := [⟨none, (.bin 89 .eql (.t 81) (.v (.k (.c (.int .i64 7)))))⟩, ⟨none, (.mov 88 (.t 89))⟩]
theorem uf77r13 : type_of% @f77r13.eq_1 := id @f77r13.eq_1
def f77b14 : AQ := (.seq (.region f77r13) f77b12)
theorem uf77b14 (P ts os Q) : awl P f77b14 Q ts os = awl P (.seq (.region f77r13) f77b12) Q ts os := id rfl
def f77b15 : AQ := (.cond (.t 82) f77b4 f77b14)
theorem uf77b15 (P ts os Q) : awl P f77b15 Q ts os = awl P (.cond (.t 82) f77b4 f77b14) Q ts os := id rfl
def f77r16 : List AI := [⟨none, (.bin 84 .eql (.t 81) (.v (.k (.c (.int .i64 5)))))⟩, ⟨none, (.mov 82 (.t 84))⟩]
theorem uf77r16 : type_of% @f77r16.eq_1 := id @f77r16.eq_1
def f77b17 : AQ := (.cond (.t 82) .skip (.region f77r16))
theorem uf77b17 (P ts os Q) : awl P f77b17 Q ts os = awl P (.cond (.t 82) .skip (.region f77r16)) Q ts os := id rfl
def f77r18 : List AI := [⟨none, (.bin 83 .eql (.t 81) (.v (.k (.c (.int .i64 4)))))⟩, ⟨none, (.mov 82 (.t 83))⟩]
theorem uf77r18 : type_of% @f77r18.eq_1 := id @f77r18.eq_1
def f77b19 : AQ := (.seq (.region f77r18) f77b17)
theorem uf77b19 (P ts os Q) : awl P f77b19 Q ts os = awl P (.seq (.region f77r18) f77b17) Q ts os := id rfl
def f77b20 : AQ := (.seq f77b19 f77b15)
theorem uf77b20 (P ts os Q) : awl P f77b20 Q ts os = awl P (.seq f77b19 f77b15) Q ts os := id rfl
def f77b21 : AQ := (.block 1 f77b20)
theorem uf77b21 (P ts os Q) : awl P f77b21 Q ts os = awl P (.block 1 f77b20) Q ts os := id rfl
def f77r22 : List AI := [⟨none, (.mov 81 (.t 0))⟩]
theorem uf77r22 : type_of% @f77r22.eq_1 := id @f77r22.eq_1
def f77b23 : AQ := (.seq (.region f77r22) f77b21)
theorem uf77b23 (P ts os Q) : awl P f77b23 Q ts os = awl P (.seq (.region f77r22) f77b21) Q ts os := id rfl
def f77b24 : AQ := (.seq f77b23 f77b2)
theorem uf77b24 (P ts os Q) : awl P f77b24 Q ts os = awl P (.seq f77b23 f77b2) Q ts os := id rfl
def f77r25 : List AI := [⟨none, (.mov 73 (.t 1))⟩, ⟨none, (.iaddr 74 2 (.t 73) (.v (.k (.c (.int .i64 0)))))⟩, ⟨none, (.faddr 75 1 (.t 74))⟩, ⟨none, (.load 76 1 false (.t 75))⟩, ⟨none, (.mov 77 (.t 1))⟩, ⟨none, (.iaddr 78 2 (.t 77) (.v (.k (.c (.int .i64 1)))))⟩, ⟨none, (.faddr 79 1 (.t 78))⟩, ⟨none, (.load 80 1 false (.t 79))⟩, ⟨none, (.mov 6 (.t 76))⟩, ⟨none, (.mov 7 (.t 80))⟩]
theorem uf77r25 : type_of% @f77r25.eq_1 := id @f77r25.eq_1
def f77b26 : AQ := (.seq (.draw f77r25 [[], [0], [1], [2], [], [4], [5], [6], [3, 0, 1, 2, 3], [7, 8, 0, 1, 2, 3, 4, 5, 6, 7, 8]]) f77b24)
theorem uf77b26 (P ts os Q) : awl P f77b26 Q ts os = awl P (.seq (.draw f77r25 [[], [0], [1], [2], [], [4], [5], [6], [3, 0, 1, 2, 3], [7, 8, 0, 1, 2, 3, 4, 5, 6, 7, 8]]) f77b24) Q ts os := id rfl
def f77r27 : List AI := [⟨none, (.build 72 [(.bool false), (.int .i64 0)] [])⟩, ⟨none, (.store 2 (.t 4) (.t 72))⟩]
theorem uf77r27 : type_of% @f77r27.eq_1 := id @f77r27.eq_1
def f77b28 : AQ := (.seq (.region f77r27) .ret)
theorem uf77b28 (P ts os Q) : awl P f77b28 Q ts os = awl P (.seq (.region f77r27) .ret) Q ts os := id rfl
def f77b29 : AQ := (.cond (.t 71) f77b28 .skip)
theorem uf77b29 (P ts os Q) : awl P f77b29 Q ts os = awl P (.cond (.t 71) f77b28 .skip) Q ts os := id rfl
def f77r30 : List AI := [⟨none, (.mov 60 (.t 1))⟩, ⟨none, (.iaddr 61 2 (.t 60) (.v (.k (.c (.int .i64 0)))))⟩, ⟨none, (.faddr 62 0 (.t 61))⟩, ⟨none, (.load 63 1 false (.t 62))⟩, ⟨none, (.un 64 .not (.t 63))⟩, ⟨none, (.mov 65 (.t 64))⟩, ⟨(some (65, false)), (.mov 66 (.t 1))⟩, ⟨(some (65, false)), (.iaddr 67 2 (.t 66) (.v (.k (.c (.int .i64 1)))))⟩, ⟨(some (65, false)), (.faddr 68 0 (.t 67))⟩, ⟨(some (65, false)), (.load 69 1 false (.t 68))⟩, ⟨(some (65, false)), (.un 70 .not (.t 69))⟩, ⟨none, (.pick 71 (.t 65) (.v (.k (.c (.bool true)))) (.t 70))⟩]
theorem uf77r30 : type_of% @f77r30.eq_1 := id @f77r30.eq_1
def f77b31 : AQ := (.seq (.region f77r30) f77b29)
theorem uf77b31 (P ts os Q) : awl P f77b31 Q ts os = awl P (.seq (.region f77r30) f77b29) Q ts os := id rfl
def f77b32 : AQ := (.seq f77b31 f77b26)
theorem uf77b32 (P ts os Q) : awl P f77b32 Q ts os = awl P (.seq f77b31 f77b26) Q ts os := id rfl
def f77r33 : List AI := [⟨none, (.build 21 [(.bool false), (.int .i64 0)] [])⟩, ⟨none, (.store 2 (.t 4) (.t 21))⟩]
theorem uf77r33 : type_of% @f77r33.eq_1 := id @f77r33.eq_1
def f77b34 : AQ := (.seq (.region f77r33) .ret)
theorem uf77b34 (P ts os Q) : awl P f77b34 Q ts os = awl P (.seq (.region f77r33) .ret) Q ts os := id rfl
def f77r35 : List AI := [⟨none, (.mov 15 (.t 1))⟩, ⟨none, (.iaddr 16 2 (.t 15) (.v (.k (.c (.int .i64 0)))))⟩, ⟨none, (.faddr 17 1 (.t 16))⟩, ⟨none, (.load 18 1 false (.t 17))⟩, ⟨none, (.bin 19 .eql (.t 18) (.v (.k (.c (.int .i64 0)))))⟩, ⟨none, (.call (some 20) 94 [(.t 19)])⟩, ⟨none, (.store 2 (.t 4) (.t 20))⟩]
theorem uf77r35 : type_of% @f77r35.eq_1 := id @f77r35.eq_1
def f77b36 : AQ := (.seq (.region f77r35) .ret)
theorem uf77b36 (P ts os Q) : awl P f77b36 Q ts os = awl P (.seq (.region f77r35) .ret) Q ts os := id rfl
def f77b37 : AQ := (.cond (.t 14) f77b36 .skip)
theorem uf77b37 (P ts os Q) : awl P f77b37 Q ts os = awl P (.cond (.t 14) f77b36 .skip) Q ts os := id rfl
def f77r38 : List AI := [⟨none, (.mov 11 (.t 1))⟩, ⟨none, (.iaddr 12 2 (.t 11) (.v (.k (.c (.int .i64 0)))))⟩, ⟨none, (.faddr 13 0 (.t 12))⟩, ⟨none, (.load 14 1 false (.t 13))⟩]
theorem uf77r38 : type_of% @f77r38.eq_1 := id @f77r38.eq_1
def f77b39 : AQ := (.seq (.region f77r38) f77b37)
theorem uf77b39 (P ts os Q) : awl P f77b39 Q ts os = awl P (.seq (.region f77r38) f77b37) Q ts os := id rfl
def f77b40 : AQ := (.seq f77b39 f77b34)
theorem uf77b40 (P ts os Q) : awl P f77b40 Q ts os = awl P (.seq f77b39 f77b34) Q ts os := id rfl
def f77r41 : List AI := [⟨none, (.load 40 2 true (.t 5))⟩, ⟨none, (.store 2 (.t 4) (.t 40))⟩]
theorem uf77r41 : type_of% @f77r41.eq_1 := id @f77r41.eq_1
def f77b42 : AQ := (.seq (.region f77r41) .ret)
theorem uf77b42 (P ts os Q) : awl P f77b42 Q ts os = awl P (.seq (.region f77r41) .ret) Q ts os := id rfl
def f77b43 : AQ := (.cond (.t 39) f77b42 .skip)
theorem uf77b43 (P ts os Q) : awl P f77b43 Q ts os = awl P (.cond (.t 39) f77b42 .skip) Q ts os := id rfl
def f77r44 : List AI := [⟨none, (.mov 28 (.t 1))⟩, ⟨none, (.iaddr 29 2 (.t 28) (.v (.k (.c (.int .i64 0)))))⟩, ⟨none, (.load 30 2 true (.t 29))⟩, ⟨none, (.load 31 2 true (.t 5))⟩, ⟨none, (.eqAgg 32 false [.bool, .int] (.t 30) (.t 31))⟩, ⟨none, (.mov 33 (.t 32))⟩, ⟨(some (33, false)), (.mov 34 (.t 1))⟩, ⟨(some (33, false)), (.iaddr 35 2 (.t 34) (.v (.k (.c (.int .i64 1)))))⟩, ⟨(some (33, false)), (.load 36 2 true (.t 35))⟩, ⟨(some (33, false)), (.load 37 2 true (.t 5))⟩, ⟨(some (33, false)), (.eqAgg 38 false [.bool, .int] (.t 36) (.t 37))⟩, ⟨none, (.pick 39 (.t 33) (.v (.k (.c (.bool true)))) (.t 38))⟩]
theorem uf77r44 : type_of% @f77r44.eq_1 := id @f77r44.eq_1
def f77b45 : AQ := (.seq (.draw f77r44 [[], [0], [1], [], [2, 3], [4], [5], [6, 5], [7, 5], [5], [8, 9, 5], [5, 10]]) f77b43)
theorem uf77b45 (P ts os Q) : awl P f77b45 Q ts os = awl P (.seq (.draw f77r44 [[], [0], [1], [], [2, 3], [4], [5], [6, 5], [7, 5], [5], [8, 9, 5], [5, 10]]) f77b43) Q ts os := id rfl
def f77r46 : List AI := [⟨none, (.mov 25 (.t 0))⟩, ⟨none, (.bin 26 .eql (.t 25) (.v (.k (.c (.int .i64 5)))))⟩, ⟨none, (.call (some 27) 94 [(.t 26)])⟩, ⟨none, (.alloc 5 53 [(.bool false), (.int .i64 0)])⟩, ⟨none, (.store 2 (.t 5) (.t 27))⟩]
theorem uf77r46 : type_of% @f77r46.eq_1 := id @f77r46.eq_1
def f77b47 : AQ := (.seq (.region f77r46) f77b45)
theorem uf77b47 (P ts os Q) : awl P f77b47 Q ts os = awl P (.seq (.region f77r46) f77b45) Q ts os := id rfl
def f77r48 : List AI := [⟨none, (.build 59 [(.bool false), (.int .i64 0)] [])⟩, ⟨none, (.store 2 (.t 4) (.t 59))⟩]
theorem uf77r48 : type_of% @f77r48.eq_1 := id @f77r48.eq_1
def f77b49 : AQ := (.seq (.region f77r48) .ret)
theorem uf77b49 (P ts os Q) : awl P f77b49 Q ts os = awl P (.seq (.region f77r48) .ret) Q ts os := id rfl
def f77r50 : List AI := [⟨none, (.mov 56 (.t 1))⟩, ⟨none, (.iaddr 57 2 (.t 56) (.v (.k (.c (.int .i64 1)))))⟩, ⟨none, (.load 58 2 true (.t 57))⟩, ⟨none, (.store 2 (.t 4) (.t 58))⟩]
theorem uf77r50 : type_of% @f77r50.eq_1 := id @f77r50.eq_1
def f77b51 : AQ := (.seq (.region f77r50) .ret)
theorem uf77b51 (P ts os Q) : awl P f77b51 Q ts os = awl P (.seq (.region f77r50) .ret) Q ts os := id rfl
def f77b52 : AQ := (.cond (.t 55) f77b51 .skip)
theorem uf77b52 (P ts os Q) : awl P f77b52 Q ts os = awl P (.cond (.t 55) f77b51 .skip) Q ts os := id rfl
def f77r53 : List AI := [⟨none, (.mov 43 (.t 1))⟩, ⟨none, (.iaddr 44 2 (.t 43) (.v (.k (.c (.int .i64 1)))))⟩, ⟨none, (.faddr 45 0 (.t 44))⟩, ⟨none, (.load 46 1 false (.t 45))⟩, ⟨none, (.mov 47 (.t 46))⟩, ⟨(some (47, true)), (.mov 48 (.t 1))⟩, ⟨(some (47, true)), (.iaddr 49 2 (.t 48) (.v (.k (.c (.int .i64 1)))))⟩, ⟨(some (47, true)), (.load 50 2 true (.t 49))⟩, ⟨(some (47, true)), (.mov 51 (.t 1))⟩, ⟨(some (47, true)), (.iaddr 52 2 (.t 51) (.v (.k (.c (.int .i64 2)))))⟩, ⟨(some (47, true)), (.load 53 2 true (.t 52))⟩, ⟨(some (47, true)), (.eqAgg 54 false [.bool, .int] (.t 50) (.t 53))⟩, ⟨none, (.pick 55 (.t 47) (.t 54) (.v (.k (.c (.bool false)))))⟩]
theorem uf77r53 : type_of% @f77r53.eq_1 := id @f77r53.eq_1
def f77b54 : AQ := (.seq (.draw f77r53 [[], [0], [1], [2], [3], [4], [5, 4], [6, 4], [4], [8, 4], [9, 4], [7, 10, 4], [4, 11]]) f77b52)
theorem uf77b54 (P ts os Q) : awl P f77b54 Q ts os = awl P (.seq (.draw f77r53 [[], [0], [1], [2], [3], [4], [5, 4], [6, 4], [4], [8, 4], [9, 4], [7, 10, 4], [4, 11]]) f77b52) Q ts os := id rfl
def f77b55 : AQ := (.seq f77b54 f77b49)
theorem uf77b55 (P ts os Q) : awl P f77b55 Q ts os = awl P (.seq f77b54 f77b49) Q ts os := id rfl
def f77b56 : AQ := (.cond (.t 41) f77b55 .skip)
theorem uf77b56 (P ts os Q) : awl P f77b56 Q ts os = awl P (.cond (.t 41) f77b55 .skip) Q ts os := id rfl
def f77r57 : List AI := [⟨none, (.bin 42 .eql (.t 8) (.v (.k (.c (.int .i64 6)))))⟩, ⟨none, (.mov 41 (.t 42))⟩]
theorem uf77r57 : type_of% @f77r57.eq_1 := id @f77r57.eq_1
def f77b58 : AQ := (.seq (.region f77r57) f77b56)
theorem uf77b58 (P ts os Q) : awl P f77b58 Q ts os = awl P (.seq (.region f77r57) f77b56) Q ts os := id rfl
def f77b59 : AQ := (.cond (.t 22) f77b47 f77b58)
theorem uf77b59 (P ts os Q) : awl P f77b59 Q ts os = awl P (.cond (.t 22) f77b47 f77b58) Q ts os := id rfl
def f77r60 : List AI := [⟨none, (.bin 24 .eql (.t 8) (.v (.k (.c (.int .i64 5)))))⟩, ⟨none, (.mov 22 (.t 24))⟩]
theorem uf77r60 : type_of% @f77r60.eq_1 := id @f77r60.eq_1
def f77b61 : AQ := (.cond (.t 22) .skip (.region f77r60))
theorem uf77b61 (P ts os Q) : awl P f77b61 Q ts os = awl P (.cond (.t 22) .skip (.region f77r60)) Q ts os := id rfl
def f77r62 : List AI := [⟨none, (.bin 23 .eql (.t 8) (.v (.k (.c (.int .i64 4)))))⟩, ⟨none, (.mov 22 (.t 23))⟩]
theorem uf77r62 : type_of% @f77r62.eq_1 := id @f77r62.eq_1
def f77b63 : AQ := (.seq (.region f77r62) f77b61)
theorem uf77b63 (P ts os Q) : awl P f77b63 Q ts os = awl P (.seq (.region f77r62) f77b61) Q ts os := id rfl
def f77b64 : AQ := (.seq f77b63 f77b59)
theorem uf77b64 (P ts os Q) : awl P f77b64 Q ts os = awl P (.seq f77b63 f77b59) Q ts os := id rfl
def f77b65 : AQ := (.cond (.t 9) f77b40 f77b64)
theorem uf77b65 (P ts os Q) : awl P f77b65 Q ts os = awl P (.cond (.t 9) f77b40 f77b64) Q ts os := id rfl
def f77r66 : List AI := [⟨none, (.bin 10 .eql (.t 8) (.v (.k (.c (.int .i64 3)))))⟩, ⟨none, (.mov 9 (.t 10))⟩]
theorem uf77r66 : type_of% @f77r66.eq_1 := id @f77r66.eq_1
def f77b67 : AQ := (.seq (.region f77r66) f77b65)
theorem uf77b67 (P ts os Q) : awl P f77b67 Q ts os = awl P (.seq (.region f77r66) f77b65) Q ts os := id rfl
def f77b68 : AQ := (.block 0 f77b67)
theorem uf77b68 (P ts os Q) : awl P f77b68 Q ts os = awl P (.block 0 f77b67) Q ts os := id rfl
def f77r69 : List AI := [⟨none, (.mov 8 (.t 0))⟩]
theorem uf77r69 : type_of% @f77r69.eq_1 := id @f77r69.eq_1
def f77b70 : AQ := (.seq (.region f77r69) f77b68)
theorem uf77b70 (P ts os Q) : awl P f77b70 Q ts os = awl P (.seq (.region f77r69) f77b68) Q ts os := id rfl
def f77b71 : AQ := (.seq f77b70 f77b32)
theorem uf77b71 (P ts os Q) : awl P f77b71 Q ts os = awl P (.seq f77b70 f77b32) Q ts os := id rfl
def f77r72 : List AI := [⟨none, (.alloc 4 53 [(.bool false), (.int .i64 0)])⟩]
theorem uf77r72 : type_of% @f77r72.eq_1 := id @f77r72.eq_1
def f77b73 : AQ := (.seq (.region f77r72) f77b71)
theorem uf77b73 (P ts os Q) : awl P f77b73 Q ts os = awl P (.seq (.region f77r72) f77b71) Q ts os := id rfl
def f77 : AQ := f77b73
theorem uf77 (P ts os Q) : awl P f77 Q ts os = awl P f77b73 Q ts os := id rfl
theorem hf77 : cFunc Try.prog 77 = some ⟨105, f77.erase, [(RX.cell 4 2 true)]⟩ := by kernel_rfl
theorem okf77 : f77.ok = true := by kernel_rfl
def f78r1 : List AI := [⟨none, (.mov 35 (.t 6))⟩, ⟨none, (.mov 2 (.t 35))⟩]
theorem uf78r1 : type_of% @f78r1.eq_1 := id @f78r1.eq_1
def f78b2 : AQ := (.seq (.region f78r1) .ret)
theorem uf78b2 (P ts os Q) : awl P f78b2 Q ts os = awl P (.seq (.region f78r1) .ret) Q ts os := id rfl
def f78r3 : List AI := [⟨none, (.bin 34 .add (.t 27) (.v (.k (.c (.int .i64 1)))))⟩, ⟨none, (.mov 27 (.t 34))⟩]
theorem uf78r3 : type_of% @f78r3.eq_1 := id @f78r3.eq_1
def f78r4 : List AI := [⟨none, (.mov 31 (.t 6))⟩, ⟨none, (.mov 32 (.t 8))⟩, ⟨none, (.append 33 3 1 8 (.t 31) (.t 32))⟩, ⟨none, (.mov 6 (.t 33))⟩]
theorem uf78r4 : type_of% @f78r4.eq_1 := id @f78r4.eq_1
def f78r5 : List AI := [⟨none, (.iaddr 29 1 (.t 25) (.t 27))⟩, ⟨none, (.load 30 1 false (.t 29))⟩, ⟨none, (.mov 8 (.t 30))⟩]
theorem uf78r5 : type_of% @f78r5.eq_1 := id @f78r5.eq_1
def f78b6 : AQ := (.seq (.region f78r5) (.region f78r4))
theorem uf78b6 (P ts os Q) : awl P f78b6 Q ts os = awl P (.seq (.region f78r5) (.region f78r4)) Q ts os := id rfl
def f78b7 : AQ := (.block 3 f78b6)
theorem uf78b7 (P ts os Q) : awl P f78b7 Q ts os = awl P (.block 3 f78b6) Q ts os := id rfl
def f78b8 : AQ := (.seq f78b7 (.region f78r3))
theorem uf78b8 (P ts os Q) : awl P f78b8 Q ts os = awl P (.seq f78b7 (.region f78r3)) Q ts os := id rfl
def f78b9 : AQ := (.cond (.t 28) .skip (.exit 2))
theorem uf78b9 (P ts os Q) : awl P f78b9 Q ts os = awl P (.cond (.t 28) .skip (.exit 2)) Q ts os := id rfl
def f78b10 : AQ := (.seq f78b9 f78b8)
theorem uf78b10 (P ts os Q) : awl P f78b10 Q ts os = awl P (.seq f78b9 f78b8) Q ts os := id rfl
def f78r11 : List AI := [⟨none, (.bin 28 .lss (.t 27) (.t 26))⟩]
theorem uf78r11 : type_of% @f78r11.eq_1 := id @f78r11.eq_1
def f78b12 : AQ := (.seq (.region f78r11) f78b10)
theorem uf78b12 (P ts os Q) : awl P f78b12 Q ts os = awl P (.seq (.region f78r11) f78b10) Q ts os := id rfl
def f78l13 : AQ := .loop [6, 25, 26, 27] [24, 33, 25000, 25001, 25002] f78b12
theorem uf78l13 (P ts os Q) : awl P f78l13 Q ts os = awl P (.loop [6, 25, 26, 27] [24, 33, 25000, 25001, 25002] f78b12) Q ts os := id rfl
def f78b14 : AQ := (.block 2 f78l13)
theorem uf78b14 (P ts os Q) : awl P f78b14 Q ts os = awl P (.block 2 f78l13) Q ts os := id rfl
def f78r15 : List AI := [⟨none, (.mov 25 (.t 0))⟩, ⟨none, (.len 26 (.t 25))⟩, ⟨none, (.mov 27 (.v (.k (.c (.int .i64 0)))))⟩]
theorem uf78r15 : type_of% @f78r15.eq_1 := id @f78r15.eq_1
def f78b16 : AQ := (.seq (.region f78r15) f78b14)
theorem uf78b16 (P ts os Q) : awl P f78b16 Q ts os = awl P (.seq (.region f78r15) f78b14) Q ts os := id rfl
def f78b17 : AQ := (.seq f78b16 f78b2)
theorem uf78b17 (P ts os Q) : awl P f78b17 Q ts os = awl P (.seq f78b16 f78b2) Q ts os := id rfl
def f78r18 : List AI := [⟨none, (.mov 23 (.t 3))⟩, ⟨none, (.call (some 24) 96 [(.v (.k (.c (.list 0 (some true) [])))), (.t 23)])⟩, ⟨none, (.mov 6 (.t 24))⟩]
theorem uf78r18 : type_of% @f78r18.eq_1 := id @f78r18.eq_1
def f78b19 : AQ := (.seq (.region f78r18) f78b17)
theorem uf78b19 (P ts os Q) : awl P f78b19 Q ts os = awl P (.seq (.region f78r18) f78b17) Q ts os := id rfl
def f78r20 : List AI := [⟨none, (.bin 22 .add (.t 11) (.v (.k (.c (.int .i64 1)))))⟩, ⟨none, (.mov 11 (.t 22))⟩]
theorem uf78r20 : type_of% @f78r20.eq_1 := id @f78r20.eq_1
def f78b21 : AQ := (.cond (.v V.any) .skip .skip)
def f78b22 : AQ := (.cond (.t 20) f78b21 .skip)
theorem uf78b22 (P ts os Q) : awl P f78b22 Q ts os = awl P (.cond (.t 20) f78b21 .skip) Q ts os := id rfl
def f78r23 : List AI := [⟨none, (.mov 19 (.t 3))⟩, ⟨none, (.bin 20 .lss (.t 19) (.v (.k (.c (.int .i64 0)))))⟩]
theorem uf78r23 : type_of% @f78r23.eq_1 := id @f78r23.eq_1
def f78b24 : AQ := (.seq (.region f78r23) f78b22)
theorem uf78b24 (P ts os Q) : awl P f78b24 Q ts os = awl P (.seq (.region f78r23) f78b22) Q ts os := id rfl
def f78r25 : List AI := [⟨none, (.mov 15 (.t 3))⟩, ⟨none, (.mov 16 (.t 5))⟩, ⟨none, (.len 17 (.t 16))⟩, ⟨none, (.bin 18 .add (.t 15) (.t 17))⟩, ⟨none, (.mov 3 (.t 18))⟩]
theorem uf78r25 : type_of% @f78r25.eq_1 := id @f78r25.eq_1
def f78b26 : AQ := (.seq (.region f78r25) f78b24)
theorem uf78b26 (P ts os Q) : awl P f78b26 Q ts os = awl P (.seq (.region f78r25) f78b24) Q ts os := id rfl
def f78r27 : List AI := [⟨none, (.iaddr 13 1 (.t 9) (.t 11))⟩, ⟨none, (.load 14 1 false (.t 13))⟩, ⟨none, (.mov 5 (.t 14))⟩]
theorem uf78r27 : type_of% @f78r27.eq_1 := id @f78r27.eq_1
def f78b28 : AQ := (.seq (.region f78r27) f78b26)
theorem uf78b28 (P ts os Q) : awl P f78b28 Q ts os = awl P (.seq (.region f78r27) f78b26) Q ts os := id rfl
def f78b29 : AQ := (.block 1 f78b28)
theorem uf78b29 (P ts os Q) : awl P f78b29 Q ts os = awl P (.block 1 f78b28) Q ts os := id rfl
def f78b30 : AQ := (.seq f78b29 (.region f78r20))
theorem uf78b30 (P ts os Q) : awl P f78b30 Q ts os = awl P (.seq f78b29 (.region f78r20)) Q ts os := id rfl
def f78b31 : AQ := (.cond (.t 12) .skip (.exit 0))
theorem uf78b31 (P ts os Q) : awl P f78b31 Q ts os = awl P (.cond (.t 12) .skip (.exit 0)) Q ts os := id rfl
def f78b32 : AQ := (.seq f78b31 f78b30)
theorem uf78b32 (P ts os Q) : awl P f78b32 Q ts os = awl P (.seq f78b31 f78b30) Q ts os := id rfl
def f78r33 : List AI := [⟨none, (.bin 12 .lss (.t 11) (.t 10))⟩]
theorem uf78r33 : type_of% @f78r33.eq_1 := id @f78r33.eq_1
def f78b34 : AQ := (.seq (.region f78r33) f78b32)
theorem uf78b34 (P ts os Q) : awl P f78b34 Q ts os = awl P (.seq (.region f78r33) f78b32) Q ts os := id rfl
def f78l35 : AQ := .loop [0, 3, 9, 10, 11] [] f78b34
theorem uf78l35 (P ts os Q) : awl P f78l35 Q ts os = awl P (.loop [0, 3, 9, 10, 11] [] f78b34) Q ts os := id rfl
def f78b36 : AQ := (.block 0 f78l35)
theorem uf78b36 (P ts os Q) : awl P f78b36 Q ts os = awl P (.block 0 f78l35) Q ts os := id rfl
def f78r37 : List AI := [⟨none, (.mov 9 (.t 0))⟩, ⟨none, (.len 10 (.t 9))⟩, ⟨none, (.mov 11 (.v (.k (.c (.int .i64 0)))))⟩]
theorem uf78r37 : type_of% @f78r37.eq_1 := id @f78r37.eq_1
def f78b38 : AQ := (.seq (.region f78r37) f78b36)
theorem uf78b38 (P ts os Q) : awl P f78b38 Q ts os = awl P (.seq (.region f78r37) f78b36) Q ts os := id rfl
def f78b39 : AQ := (.seq f78b38 f78b19)
theorem uf78b39 (P ts os Q) : awl P f78b39 Q ts os = awl P (.seq f78b38 f78b19) Q ts os := id rfl
def f78r40 : List AI := [⟨none, (.mov 3 (.v (.k (.c (.int .i64 0)))))⟩]
theorem uf78r40 : type_of% @f78r40.eq_1 := id @f78r40.eq_1
def f78b41 : AQ := (.seq (.region f78r40) f78b39)
theorem uf78b41 (P ts os Q) : awl P f78b41 Q ts os = awl P (.seq (.region f78r40) f78b39) Q ts os := id rfl
def f78r42 : List AI := [⟨none, (.nilL 2 3 1)⟩]
theorem uf78r42 : type_of% @f78r42.eq_1 := id @f78r42.eq_1
def f78b43 : AQ := (.seq (.region f78r42) f78b41)
theorem uf78b43 (P ts os Q) : awl P f78b43 Q ts os = awl P (.seq (.region f78r42) f78b41) Q ts os := id rfl
def f78 : AQ := f78b43
theorem uf78 (P ts os Q) : awl P f78 Q ts os = awl P f78b43 Q ts os := id rfl
theorem hf78 : cFunc Try.prog 78 = some ⟨36, f78.erase, [(RX.t 2)]⟩ := by kernel_rfl
theorem okf78 : f78.ok = true := by kernel_rfl
def f93r1 : List AI := [⟨none, (.mov 3 (.t 0))⟩, ⟨none, (.minmax 4 true (.t 3) [(.v (.k (.c (.int .i64 (-1099511627776)))))])⟩, ⟨none, (.minmax 5 false (.t 4) [(.v (.k (.c (.int .i64 1099511627776))))])⟩, ⟨none, (.mov 2 (.t 5))⟩]
theorem uf93r1 : type_of% @f93r1.eq_1 := id @f93r1.eq_1
def f93b2 : AQ := (.seq (.region f93r1) .ret)
theorem uf93b2 (P ts os Q) : awl P f93b2 Q ts os = awl P (.seq (.region f93r1) .ret) Q ts os := id rfl
def f93r3 : List AI := [⟨none, (.mov 2 (.v (.k (.c (.int .i64 0)))))⟩]
theorem uf93r3 : type_of% @f93r3.eq_1 := id @f93r3.eq_1
def f93b4 : AQ := (.seq (.region f93r3) f93b2)
theorem uf93b4 (P ts os Q) : awl P f93b4 Q ts os = awl P (.seq (.region f93r3) f93b2) Q ts os := id rfl
def f93 : AQ := f93b4
theorem uf93 (P ts os Q) : awl P f93 Q ts os = awl P f93b4 Q ts os := id rfl
theorem hf93 : cFunc Try.prog 93 = some ⟨6, f93.erase, [(RX.t 2)]⟩ := by kernel_rfl
theorem okf93 : f93.ok = true := by kernel_rfl
def f94r1 : List AI := [⟨none, (.build 5 [(.bool false), (.int .i64 0)] [(0, (1, (.v (.k (.c (.bool true))))))])⟩, ⟨none, (.store 2 (.t 2) (.t 5))⟩]
theorem uf94r1 : type_of% @f94r1.eq_1 := id @f94r1.eq_1
def f94b2 : AQ := (.seq (.region f94r1) .ret)
theorem uf94b2 (P ts os Q) : awl P f94b2 Q ts os = awl P (.seq (.region f94r1) .ret) Q ts os := id rfl
def f94r3 : List AI := [⟨none, (.build 4 [(.bool false), (.int .i64 0)] [(0, (1, (.v (.k (.c (.bool true)))))), (1, (1, (.v (.k (.c (.int .i64 1))))))])⟩, ⟨none, (.store 2 (.t 2) (.t 4))⟩]
theorem uf94r3 : type_of% @f94r3.eq_1 := id @f94r3.eq_1
def f94b4 : AQ := (.seq (.region f94r3) .ret)
theorem uf94b4 (P ts os Q) : awl P f94b4 Q ts os = awl P (.seq (.region f94r3) .ret) Q ts os := id rfl
def f94b5 : AQ := (.cond (.t 3) f94b4 .skip)
theorem uf94b5 (P ts os Q) : awl P f94b5 Q ts os = awl P (.cond (.t 3) f94b4 .skip) Q ts os := id rfl
def f94r6 : List AI := [⟨none, (.mov 3 (.t 0))⟩]
theorem uf94r6 : type_of% @f94r6.eq_1 := id @f94r6.eq_1
def f94b7 : AQ := (.seq (.region f94r6) f94b5)
theorem uf94b7 (P ts os Q) : awl P f94b7 Q ts os = awl P (.seq (.region f94r6) f94b5) Q ts os := id rfl
def f94b8 : AQ := (.seq f94b7 f94b2)
theorem uf94b8 (P ts os Q) : awl P f94b8 Q ts os = awl P (.seq f94b7 f94b2) Q ts os := id rfl
def f94r9 : List AI := [⟨none, (.alloc 2 53 [(.bool false), (.int .i64 0)])⟩]
theorem uf94r9 : type_of% @f94r9.eq_1 := id @f94r9.eq_1
def f94b10 : AQ := (.seq (.region f94r9) f94b8)
theorem uf94b10 (P ts os Q) : awl P f94b10 Q ts os = awl P (.seq (.region f94r9) f94b8) Q ts os := id rfl
def f94 : AQ := f94b10
theorem uf94 (P ts os Q) : awl P f94 Q ts os = awl P f94b10 Q ts os := id rfl
theorem hf94 : cFunc Try.prog 94 = some ⟨6, f94.erase, [(RX.cell 2 2 true)]⟩ := by kernel_rfl
theorem okf94 : f94.ok = true := by kernel_rfl
def f95r1 : List AI := [⟨none, (.mov 30 (.t 1))⟩, ⟨none, (.mov 31 (.t 2))⟩, ⟨none, (.minmax 32 true (.t 30) [(.t 31)])⟩, ⟨none, (.mov 6 (.t 32))⟩]
theorem uf95r1 : type_of% @f95r1.eq_1 := id @f95r1.eq_1
def f95b2 : AQ := (.seq (.region f95r1) .ret)
theorem uf95b2 (P ts os Q) : awl P f95b2 Q ts os = awl P (.seq (.region f95r1) .ret) Q ts os := id rfl
def f95r3 : List AI := [⟨none, (.mov 10 (.t 1))⟩, ⟨none, (.mov 11 (.t 2))⟩, ⟨none, (.bin 12 .add (.t 10) (.t 11))⟩, ⟨none, (.call (some 13) 93 [(.t 12)])⟩, ⟨none, (.mov 6 (.t 13))⟩]
theorem uf95r3 : type_of% @f95r3.eq_1 := id @f95r3.eq_1
def f95b4 : AQ := (.seq (.region f95r3) .ret)
theorem uf95b4 (P ts os Q) : awl P f95b4 Q ts os = awl P (.seq (.region f95r3) .ret) Q ts os := id rfl
def f95r5 : List AI := [⟨none, (.mov 16 (.t 1))⟩, ⟨none, (.mov 17 (.t 2))⟩, ⟨none, (.bin 18 .sub (.t 16) (.t 17))⟩, ⟨none, (.call (some 19) 93 [(.t 18)])⟩, ⟨none, (.mov 6 (.t 19))⟩]
theorem uf95r5 : type_of% @f95r5.eq_1 := id @f95r5.eq_1
def f95b6 : AQ := (.seq (.region f95r5) .ret)
theorem uf95b6 (P ts os Q) : awl P f95b6 Q ts os = awl P (.seq (.region f95r5) .ret) Q ts os := id rfl
def f95r7 : List AI := [⟨none, (.mov 22 (.t 1))⟩, ⟨none, (.mov 23 (.t 2))⟩, ⟨none, (.call (some 24) 106 [(.t 22), (.t 23)])⟩, ⟨none, (.mov 6 (.t 24))⟩]
theorem uf95r7 : type_of% @f95r7.eq_1 := id @f95r7.eq_1
def f95b8 : AQ := (.seq (.region f95r7) .ret)
theorem uf95b8 (P ts os Q) : awl P f95b8 Q ts os = awl P (.seq (.region f95r7) .ret) Q ts os := id rfl
def f95r9 : List AI := [⟨none, (.mov 27 (.t 1))⟩, ⟨none, (.mov 28 (.t 2))⟩, ⟨none, (.minmax 29 false (.t 27) [(.t 28)])⟩, ⟨none, (.mov 6 (.t 29))⟩]
theorem uf95r9 : type_of% @f95r9.eq_1 := id @f95r9.eq_1
def f95b10 : AQ := (.seq (.region f95r9) .ret)
theorem uf95b10 (P ts os Q) : awl P f95b10 Q ts os = awl P (.seq (.region f95r9) .ret) Q ts os := id rfl
def f95b11 : AQ := (.cond (.t 25) f95b10 .skip)
theorem uf95b11 (P ts os Q) : awl P f95b11 Q ts os = awl P (.cond (.t 25) f95b10 .skip) Q ts os := id rfl
def f95r12 : List AI := [⟨none, (.bin 26 .eql (.t 7) (.v (.k (.c (.int .i64 12)))))⟩, ⟨none, (.mov 25 (.t 26))⟩]
theorem uf95r12 : type_of% @f95r12.eq_1 := id @f95r12.eq_1
def f95b13 : AQ := (.seq (.region f95r12) f95b11)
theorem uf95b13 (P ts os Q) : awl P f95b13 Q ts os = awl P (.seq (.region f95r12) f95b11) Q ts os := id rfl
def f95b14 : AQ := (.cond (.t 20) f95b8 f95b13)
theorem uf95b14 (P ts os Q) : awl P f95b14 Q ts os = awl P (.cond (.t 20) f95b8 f95b13) Q ts os := id rfl
def f95r15 : List AI := [⟨none, (.bin 21 .eql (.t 7) (.v (.k (.c (.int .i64 11)))))⟩, ⟨none, (.mov 20 (.t 21))⟩]
theorem uf95r15 : type_of% @f95r15.eq_1 := id @f95r15.eq_1
def f95b16 : AQ := (.seq (.region f95r15) f95b14)
theorem uf95b16 (P ts os Q) : awl P f95b16 Q ts os = awl P (.seq (.region f95r15) f95b14) Q ts os := id rfl
def f95b17 : AQ := (.cond (.t 14) f95b6 f95b16)
theorem uf95b17 (P ts os Q) : awl P f95b17 Q ts os = awl P (.cond (.t 14) f95b6 f95b16) Q ts os := id rfl
def f95r18 : List AI := [⟨none, (.bin 15 .eql (.t 7) (.v (.k (.c (.int .i64 10)))))⟩, ⟨none, (.mov 14 (.t 15))⟩]
theorem uf95r18 : type_of% @f95r18.eq_1 := id @f95r18.eq_1
def f95b19 : AQ := (.seq (.region f95r18) f95b17)
theorem uf95b19 (P ts os Q) : awl P f95b19 Q ts os = awl P (.seq (.region f95r18) f95b17) Q ts os := id rfl
def f95b20 : AQ := (.cond (.t 8) f95b4 f95b19)
theorem uf95b20 (P ts os Q) : awl P f95b20 Q ts os = awl P (.cond (.t 8) f95b4 f95b19) Q ts os := id rfl
def f95r21 : List AI := [⟨none, (.bin 9 .eql (.t 7) (.v (.k (.c (.int .i64 9)))))⟩, ⟨none, (.mov 8 (.t 9))⟩]
theorem uf95r21 : type_of% @f95r21.eq_1 := id @f95r21.eq_1
def f95b22 : AQ := (.seq (.region f95r21) f95b20)
theorem uf95b22 (P ts os Q) : awl P f95b22 Q ts os = awl P (.seq (.region f95r21) f95b20) Q ts os := id rfl
def f95b23 : AQ := (.block 0 f95b22)
theorem uf95b23 (P ts os Q) : awl P f95b23 Q ts os = awl P (.block 0 f95b22) Q ts os := id rfl
def f95r24 : List AI := [⟨none, (.mov 7 (.t 0))⟩]
theorem uf95r24 : type_of% @f95r24.eq_1 := id @f95r24.eq_1
def f95b25 : AQ := (.seq (.region f95r24) f95b23)
theorem uf95b25 (P ts os Q) : awl P f95b25 Q ts os = awl P (.seq (.region f95r24) f95b23) Q ts os := id rfl
def f95b26 : AQ := (.seq f95b25 f95b2)
theorem uf95b26 (P ts os Q) : awl P f95b26 Q ts os = awl P (.seq f95b25 f95b2) Q ts os := id rfl
def f95r27 : List AI := [⟨none, (.mov 6 (.v (.k (.c (.int .i64 0)))))⟩]
theorem uf95r27 : type_of% @f95r27.eq_1 := id @f95r27.eq_1
def f95b28 : AQ := (.seq (.region f95r27) f95b26)
theorem uf95b28 (P ts os Q) : awl P f95b28 Q ts os = awl P (.seq (.region f95r27) f95b26) Q ts os := id rfl
def f95 : AQ := f95b28
theorem uf95 (P ts os Q) : awl P f95 Q ts os = awl P f95b28 Q ts os := id rfl
theorem hf95 : cFunc Try.prog 95 = some ⟨33, f95.erase, [(RX.t 6)]⟩ := by kernel_rfl
theorem okf95 : f95.ok = true := by kernel_rfl
def f106r1 : List AI := [⟨none, (.mov 37 (.t 7))⟩, ⟨none, (.mov 4 (.t 37))⟩]
theorem uf106r1 : type_of% @f106r1.eq_1 := id @f106r1.eq_1
def f106b2 : AQ := (.seq (.region f106r1) .ret)
theorem uf106b2 (P ts os Q) : awl P f106b2 Q ts os = awl P (.seq (.region f106r1) .ret) Q ts os := id rfl
def f106r3 : List AI := [⟨none, (.mov 35 (.t 7))⟩, ⟨none, (.un 36 .neg (.t 35))⟩, ⟨none, (.mov 4 (.t 36))⟩]
theorem uf106r3 : type_of% @f106r3.eq_1 := id @f106r3.eq_1
def f106b4 : AQ := (.seq (.region f106r3) .ret)
theorem uf106b4 (P ts os Q) : awl P f106b4 Q ts os = awl P (.seq (.region f106r3) .ret) Q ts os := id rfl
def f106b5 : AQ := (.cond (.t 34) f106b4 .skip)
theorem uf106b5 (P ts os Q) : awl P f106b5 Q ts os = awl P (.cond (.t 34) f106b4 .skip) Q ts os := id rfl
def f106r6 : List AI := [⟨none, (.mov 30 (.t 0))⟩, ⟨none, (.bin 31 .lss (.t 30) (.v (.k (.c (.int .i64 0)))))⟩, ⟨none, (.mov 32 (.t 1))⟩, ⟨none, (.bin 33 .lss (.t 32) (.v (.k (.c (.int .i64 0)))))⟩, ⟨none, (.binB 34 true (.t 31) (.t 33))⟩]
theorem uf106r6 : type_of% @f106r6.eq_1 := id @f106r6.eq_1
def f106b7 : AQ := (.seq (.region f106r6) f106b5)
theorem uf106b7 (P ts os Q) : awl P f106b7 Q ts os = awl P (.seq (.region f106r6) f106b5) Q ts os := id rfl
def f106b8 : AQ := (.seq f106b7 f106b2)
theorem uf106b8 (P ts os Q) : awl P f106b8 Q ts os = awl P (.seq f106b7 f106b2) Q ts os := id rfl
def f106r9 : List AI := [⟨none, (.mov 28 (.t 6))⟩, ⟨none, (.conv 29 .i64 (.t 28))⟩, ⟨none, (.mov 7 (.t 29))⟩]
theorem uf106r9 : type_of% @f106r9.eq_1 := id @f106r9.eq_1
def f106b10 : AQ := (.cond (.t 27) (.region f106r9) .skip)
theorem uf106b10 (P ts os Q) : awl P f106b10 Q ts os = awl P (.cond (.t 27) (.region f106r9) .skip) Q ts os := id rfl
def f106r11 : List AI := [⟨none, (.mov 22 (.t 5))⟩, ⟨none, (.bin 23 .eql (.t 22) (.v (.k (.c (.int .u64 0)))))⟩, ⟨none, (.mov 24 (.t 23))⟩, ⟨(some (24, true)), (.mov 25 (.t 6))⟩, ⟨(some (24, true)), (.bin 26 .lss (.t 25) (.v (.k (.c (.int .u64 1099511627776)))))⟩, ⟨none, (.pick 27 (.t 24) (.t 26) (.v (.k (.c (.bool false)))))⟩]
theorem uf106r11 : type_of% @f106r11.eq_1 := id @f106r11.eq_1
def f106b12 : AQ := (.seq (.region f106r11) f106b10)
theorem uf106b12 (P ts os Q) : awl P f106b12 Q ts os = awl P (.seq (.region f106r11) f106b10) Q ts os := id rfl
def f106b13 : AQ := (.seq f106b12 f106b8)
theorem uf106b13 (P ts os Q) : awl P f106b13 Q ts os = awl P (.seq f106b12 f106b8) Q ts os := id rfl
def f106r14 : List AI := [⟨none, (.mov 7 (.v (.k (.c (.int .i64 1099511627776)))))⟩]
theorem uf106r14 : type_of% @f106r14.eq_1 := id @f106r14.eq_1
def f106b15 : AQ := (.seq (.region f106r14) f106b13)
theorem uf106b15 (P ts os Q) : awl P f106b15 Q ts os = awl P (.seq (.region f106r14) f106b13) Q ts os := id rfl
def f106r16 : List AI := [⟨none, (.mov 9 (.t 0))⟩, ⟨none, (.mov 10 (.t 0))⟩, ⟨none, (.un 11 .neg (.t 10))⟩, ⟨none, (.minmax 12 true (.t 9) [(.t 11)])⟩, ⟨none, (.conv 13 .u64 (.t 12))⟩, ⟨none, (.mov 14 (.t 1))⟩, ⟨none, (.mov 15 (.t 1))⟩, ⟨none, (.un 16 .neg (.t 15))⟩, ⟨none, (.minmax 17 true (.t 14) [(.t 16)])⟩, ⟨none, (.conv 18 .u64 (.t 17))⟩, ⟨none, (.call (some 19) 108 [(.t 13), (.t 18)])⟩, ⟨none, (.mov 8 (.t 19))⟩, ⟨none, (.extr 20 (.t 8) 0)⟩, ⟨none, (.extr 21 (.t 8) 1)⟩, ⟨none, (.mov 5 (.t 20))⟩, ⟨none, (.mov 6 (.t 21))⟩]
theorem uf106r16 : type_of% @f106r16.eq_1 := id @f106r16.eq_1
def f106b17 : AQ := (.seq (.region f106r16) f106b15)
theorem uf106b17 (P ts os Q) : awl P f106b17 Q ts os = awl P (.seq (.region f106r16) f106b15) Q ts os := id rfl
def f106r18 : List AI := [⟨none, (.mov 4 (.v (.k (.c (.int .i64 0)))))⟩]
theorem uf106r18 : type_of% @f106r18.eq_1 := id @f106r18.eq_1
def f106b19 : AQ := (.seq (.region f106r18) f106b17)
theorem uf106b19 (P ts os Q) : awl P f106b19 Q ts os = awl P (.seq (.region f106r18) f106b17) Q ts os := id rfl
def f106 : AQ := f106b19
theorem uf106 (P ts os Q) : awl P f106 Q ts os = awl P f106b19 Q ts os := id rfl
theorem hf106 : cFunc Try.prog 106 = some ⟨38, f106.erase, [(RX.t 4)]⟩ := by kernel_rfl
theorem okf106 : f106.ok = true := by kernel_rfl
def f108r1 : List AI := [⟨none, (.mov 48 (.t 0))⟩, ⟨none, (.mov 49 (.t 1))⟩, ⟨none, (.bin 50 .mul (.t 48) (.t 49))⟩, ⟨none, (.mov 5 (.t 50))⟩]
theorem uf108r1 : type_of% @f108r1.eq_1 := id @f108r1.eq_1
def f108b2 : AQ := (.seq (.region f108r1) .ret)
theorem uf108b2 (P ts os Q) : awl P f108b2 Q ts os = awl P (.seq (.region f108r1) .ret) Q ts os := id rfl
def f108r3 : List AI := [⟨none, (.mov 40 (.t 7))⟩, ⟨none, (.mov 41 (.t 9))⟩, ⟨none, (.bin 42 .mul (.t 40) (.t 41))⟩, ⟨none, (.mov 43 (.t 13))⟩, ⟨none, (.bin 44 .add (.t 42) (.t 43))⟩, ⟨none, (.mov 45 (.t 12))⟩, ⟨none, (.bin 46 .shr (.t 45) (.v (.k (.c (.int .u64 32)))))⟩, ⟨none, (.bin 47 .add (.t 44) (.t 46))⟩, ⟨none, (.mov 4 (.t 47))⟩]
theorem uf108r3 : type_of% @f108r3.eq_1 := id @f108r3.eq_1
def f108b4 : AQ := (.seq (.region f108r3) f108b2)
theorem uf108b4 (P ts os Q) : awl P f108b4 Q ts os = awl P (.seq (.region f108r3) f108b2) Q ts os := id rfl
def f108r5 : List AI := [⟨none, (.mov 35 (.t 12))⟩, ⟨none, (.mov 36 (.t 6))⟩, ⟨none, (.mov 37 (.t 9))⟩, ⟨none, (.bin 38 .mul (.t 36) (.t 37))⟩, ⟨none, (.bin 39 .add (.t 35) (.t 38))⟩, ⟨none, (.mov 12 (.t 39))⟩]
theorem uf108r5 : type_of% @f108r5.eq_1 := id @f108r5.eq_1
def f108b6 : AQ := (.seq (.region f108r5) f108b4)
theorem uf108b6 (P ts os Q) : awl P f108b6 Q ts os = awl P (.seq (.region f108r5) f108b4) Q ts os := id rfl
def f108r7 : List AI := [⟨none, (.mov 33 (.t 11))⟩, ⟨none, (.bin 34 .shr (.t 33) (.v (.k (.c (.int .u64 32)))))⟩, ⟨none, (.mov 13 (.t 34))⟩]
theorem uf108r7 : type_of% @f108r7.eq_1 := id @f108r7.eq_1
def f108b8 : AQ := (.seq (.region f108r7) f108b6)
theorem uf108b8 (P ts os Q) : awl P f108b8 Q ts os = awl P (.seq (.region f108r7) f108b6) Q ts os := id rfl
def f108r9 : List AI := [⟨none, (.mov 31 (.t 11))⟩, ⟨none, (.bin 32 .and (.t 31) (.v (.k (.c (.int .u64 4294967295)))))⟩, ⟨none, (.mov 12 (.t 32))⟩]
theorem uf108r9 : type_of% @f108r9.eq_1 := id @f108r9.eq_1
def f108b10 : AQ := (.seq (.region f108r9) f108b8)
theorem uf108b10 (P ts os Q) : awl P f108b10 Q ts os = awl P (.seq (.region f108r9) f108b8) Q ts os := id rfl
def f108r11 : List AI := [⟨none, (.mov 25 (.t 7))⟩, ⟨none, (.mov 26 (.t 8))⟩, ⟨none, (.bin 27 .mul (.t 25) (.t 26))⟩, ⟨none, (.mov 28 (.t 10))⟩, ⟨none, (.bin 29 .shr (.t 28) (.v (.k (.c (.int .u64 32)))))⟩, ⟨none, (.bin 30 .add (.t 27) (.t 29))⟩, ⟨none, (.mov 11 (.t 30))⟩]
theorem uf108r11 : type_of% @f108r11.eq_1 := id @f108r11.eq_1
def f108b12 : AQ := (.seq (.region f108r11) f108b10)
theorem uf108b12 (P ts os Q) : awl P f108b12 Q ts os = awl P (.seq (.region f108r11) f108b10) Q ts os := id rfl
def f108r13 : List AI := [⟨none, (.mov 22 (.t 6))⟩, ⟨none, (.mov 23 (.t 8))⟩, ⟨none, (.bin 24 .mul (.t 22) (.t 23))⟩, ⟨none, (.mov 10 (.t 24))⟩]
theorem uf108r13 : type_of% @f108r13.eq_1 := id @f108r13.eq_1
def f108b14 : AQ := (.seq (.region f108r13) f108b12)
theorem uf108b14 (P ts os Q) : awl P f108b14 Q ts os = awl P (.seq (.region f108r13) f108b12) Q ts os := id rfl
def f108r15 : List AI := [⟨none, (.mov 20 (.t 1))⟩, ⟨none, (.bin 21 .shr (.t 20) (.v (.k (.c (.int .u64 32)))))⟩, ⟨none, (.mov 9 (.t 21))⟩]
theorem uf108r15 : type_of% @f108r15.eq_1 := id @f108r15.eq_1
def f108b16 : AQ := (.seq (.region f108r15) f108b14)
theorem uf108b16 (P ts os Q) : awl P f108b16 Q ts os = awl P (.seq (.region f108r15) f108b14) Q ts os := id rfl
def f108r17 : List AI := [⟨none, (.mov 18 (.t 1))⟩, ⟨none, (.bin 19 .and (.t 18) (.v (.k (.c (.int .u64 4294967295)))))⟩, ⟨none, (.mov 8 (.t 19))⟩]
theorem uf108r17 : type_of% @f108r17.eq_1 := id @f108r17.eq_1
def f108b18 : AQ := (.seq (.region f108r17) f108b16)
theorem uf108b18 (P ts os Q) : awl P f108b18 Q ts os = awl P (.seq (.region f108r17) f108b16) Q ts os := id rfl
def f108r19 : List AI := [⟨none, (.mov 16 (.t 0))⟩, ⟨none, (.bin 17 .shr (.t 16) (.v (.k (.c (.int .u64 32)))))⟩, ⟨none, (.mov 7 (.t 17))⟩]
theorem uf108r19 : type_of% @f108r19.eq_1 := id @f108r19.eq_1
def f108b20 : AQ := (.seq (.region f108r19) f108b18)
theorem uf108b20 (P ts os Q) : awl P f108b20 Q ts os = awl P (.seq (.region f108r19) f108b18) Q ts os := id rfl
def f108r21 : List AI := [⟨none, (.mov 14 (.t 0))⟩, ⟨none, (.bin 15 .and (.t 14) (.v (.k (.c (.int .u64 4294967295)))))⟩, ⟨none, (.mov 6 (.t 15))⟩]
theorem uf108r21 : type_of% @f108r21.eq_1 := id @f108r21.eq_1
def f108b22 : AQ := (.seq (.region f108r21) f108b20)
theorem uf108b22 (P ts os Q) : awl P f108b22 Q ts os = awl P (.seq (.region f108r21) f108b20) Q ts os := id rfl
def f108r23 : List AI := [⟨none, (.mov 4 (.v (.k (.c (.int .u64 0)))))⟩, ⟨none, (.mov 5 (.v (.k (.c (.int .u64 0)))))⟩]
theorem uf108r23 : type_of% @f108r23.eq_1 := id @f108r23.eq_1
def f108b24 : AQ := (.seq (.region f108r23) f108b22)
theorem uf108b24 (P ts os Q) : awl P f108b24 Q ts os = awl P (.seq (.region f108r23) f108b22) Q ts os := id rfl
def f108 : AQ := f108b24
theorem uf108 (P ts os Q) : awl P f108 Q ts os = awl P f108b24 Q ts os := id rfl
theorem hf108 : cFunc Try.prog 108 = some ⟨51, f108.erase, [(RX.t 4), (RX.t 5)]⟩ := by kernel_rfl
theorem okf108 : f108.ok = true := by kernel_rfl
def f8r1 : List AI := [⟨none, (.mov 106 (.t 7))⟩, ⟨none, (.mov 107 (.t 106))⟩, ⟨(some (107, true)), (.faddr 108 0 (.t 10))⟩, ⟨(some (107, true)), (.load 109 1 false (.t 108))⟩, ⟨(some (107, true)), (.mov 110 (.t 109))⟩, ⟨(some (110, false)), (.load 111 3 true (.t 3))⟩, ⟨(some (110, false)), (.mov 112 (.t 1))⟩, ⟨(some (110, false)), (.mov 113 (.t 2))⟩, ⟨(some (110, false)), (.mov 114 (.t 13))⟩, ⟨(some (110, false)), (.call (some 115) 41 [(.t 112), (.t 113), (.t 114)])⟩, ⟨(some (110, false)), (.call (some 116) 37 [(.t 111), (.t 115)])⟩, ⟨(some (110, false)), (.field 117 0 1 false (.t 116))⟩, ⟨(some (110, false)), (.un 118 .not (.t 117))⟩, ⟨(some (107, true)), (.pick 119 (.t 110) (.v (.k (.c (.bool true)))) (.t 118))⟩, ⟨none, (.pick 120 (.t 107) (.t 119) (.v (.k (.c (.bool false)))))⟩, ⟨none, (.mov 6 (.t 120))⟩]
theorem uf8r1 : type_of% @f8r1.eq_1 := id @f8r1.eq_1
def f8b2 : AQ := (.seq (.draw f8r1 [[], [0], [1], [2, 1], [3, 1, 1], [4], [4], [4], [4], [6, 7, 8, 4, 4], [5, 9, 9, 4], [10, 4], [11, 4], [4, 12, 1], [1, 13], [14, 10, 0, 1, 2, 3, 4, 5, 6, 7, 8, 9, 10, 11, 12, 13, 14]]) .ret)
theorem uf8b2 (P ts os Q) : awl P f8b2 Q ts os = awl P (.seq (.draw f8r1 [[], [0], [1], [2, 1], [3, 1, 1], [4], [4], [4], [4], [6, 7, 8, 4, 4], [5, 9, 9, 4], [10, 4], [11, 4], [4, 12, 1], [1, 13], [14, 10, 0, 1, 2, 3, 4, 5, 6, 7, 8, 9, 10, 11, 12, 13, 14]]) .ret) Q ts os := id rfl
def f8r3 : List AI := [⟨none, (.mov 71 (.t 15))⟩, ⟨none, (.bin 72 .add (.t 71) (.v (.k (.c (.int .i64 1)))))⟩, ⟨none, (.mov 15 (.t 72))⟩]
theorem uf8r3 : type_of% @f8r3.eq_1 := id @f8r3.eq_1
def f8r4 : List AI := [⟨none, (.mov 6 (.v (.k (.c (.bool false)))))⟩]
def f8b5 : AQ := (.seq (.region f8r4) .ret)
def f8b6 : AQ := (.cond (.t 105) f8b5 .skip)
theorem uf8b6 (P ts os Q) : awl P f8b6 Q ts os = awl P (.cond (.t 105) f8b5 .skip) Q ts os := id rfl
def f8r7 : List AI := [⟨none, (.mov 73 (.t 12))⟩, ⟨none, (.mov 74 (.t 11))⟩, ⟨none, (.mov 75 (.t 15))⟩, ⟨none, (.iaddr 76 1 (.t 74) (.t 75))⟩, ⟨none, (.load 77 1 false (.t 76))⟩, ⟨none, (.call (some 78) 42 [(.t 73), (.t 77)])⟩, ⟨none, (.un 79 .not (.t 78))⟩, ⟨none, (.mov 80 (.t 79))⟩, ⟨(some (80, false)), (.mov 81 (.t 11))⟩, ⟨(some (80, false)), (.mov 82 (.t 15))⟩, ⟨(some (80, false)), (.iaddr 83 1 (.t 81) (.t 82))⟩, ⟨(some (80, false)), (.load 84 1 false (.t 83))⟩, ⟨(some (80, false)), (.bin 85 .lss (.t 84) (.v (.k (.c (.int .i64 0)))))⟩, ⟨none, (.pick 86 (.t 80) (.v (.k (.c (.bool true)))) (.t 85))⟩, ⟨none, (.mov 87 (.t 86))⟩, ⟨(some (87, false)), (.mov 88 (.t 11))⟩, ⟨(some (87, false)), (.mov 89 (.t 15))⟩, ⟨(some (87, false)), (.iaddr 90 1 (.t 88) (.t 89))⟩, ⟨(some (87, false)), (.load 91 1 false (.t 90))⟩, ⟨(some (87, false)), (.mov 92 (.t 1))⟩, ⟨(some (87, false)), (.len 93 (.t 92))⟩, ⟨(some (87, false)), (.bin 94 .lss (.t 91) (.t 93))⟩, ⟨(some (87, false)), (.mov 95 (.t 94))⟩, ⟨(some (95, true)), (.mov 96 (.t 1))⟩, ⟨(some (95, true)), (.mov 97 (.t 11))⟩, ⟨(some (95, true)), (.mov 98 (.t 15))⟩, ⟨(some (95, true)), (.iaddr 99 1 (.t 97) (.t 98))⟩, ⟨(some (95, true)), (.load 100 1 false (.t 99))⟩, ⟨(some (95, true)), (.iaddr 101 2 (.t 96) (.t 100))⟩, ⟨(some (95, true)), (.faddr 102 0 (.t 101))⟩, ⟨(some (95, true)), (.load 103 1 false (.t 102))⟩, ⟨(some (87, false)), (.pick 104 (.t 95) (.t 103) (.v (.k (.c (.bool false)))))⟩, ⟨none, (.pick 105 (.t 87) (.v (.k (.c (.bool true)))) (.t 104))⟩]
theorem uf8r7 : type_of% @f8r7.eq_1 := id @f8r7.eq_1
def f8b8 : AQ := (.seq (.region f8r7) f8b6)
theorem uf8b8 (P ts os Q) : awl P f8b8 Q ts os = awl P (.seq (.region f8r7) f8b6) Q ts os := id rfl
def f8b9 : AQ := (.block 3 f8b8)
theorem uf8b9 (P ts os Q) : awl P f8b9 Q ts os = awl P (.block 3 f8b8) Q ts os := id rfl
def f8b10 : AQ := (.seq f8b9 (.region f8r3))
theorem uf8b10 (P ts os Q) : awl P f8b10 Q ts os = awl P (.seq f8b9 (.region f8r3)) Q ts os := id rfl
def f8b11 : AQ := (.cond (.t 70) .skip (.exit 2))
theorem uf8b11 (P ts os Q) : awl P f8b11 Q ts os = awl P (.cond (.t 70) .skip (.exit 2)) Q ts os := id rfl
def f8r12 : List AI := [⟨none, (.mov 67 (.t 15))⟩, ⟨none, (.mov 68 (.t 11))⟩, ⟨none, (.len 69 (.t 68))⟩, ⟨none, (.bin 70 .lss (.t 67) (.t 69))⟩]
theorem uf8r12 : type_of% @f8r12.eq_1 := id @f8r12.eq_1
def f8b13 : AQ := (.seq (.region f8r12) f8b11)
theorem uf8b13 (P ts os Q) : awl P f8b13 Q ts os = awl P (.seq (.region f8r12) f8b11) Q ts os := id rfl
def f8b14 : AQ := (.seq f8b13 f8b10)
theorem uf8b14 (P ts os Q) : awl P f8b14 Q ts os = awl P (.seq f8b13 f8b10) Q ts os := id rfl
def f8l15 : AQ := .loop [1, 2, 3, 7, 10, 11, 12, 13, 15] [3, 10, 41, 44, 46, 53, 42000, 42001, 42002, 45000, 45001, 45002, 47000, 47001, 47002] f8b14
theorem uf8l15 (P ts os Q) : awl P f8l15 Q ts os = awl P (.loop [1, 2, 3, 7, 10, 11, 12, 13, 15] [3, 10, 41, 44, 46, 53, 42000, 42001, 42002, 45000, 45001, 45002, 47000, 47001, 47002] f8b14) Q ts os := id rfl
def f8b16 : AQ := (.block 2 f8l15)
theorem uf8b16 (P ts os Q) : awl P f8b16 Q ts os = awl P (.block 2 f8l15) Q ts os := id rfl
def f8r17 : List AI := [⟨none, (.mov 15 (.v (.k (.c (.int .i64 0)))))⟩]
theorem uf8r17 : type_of% @f8r17.eq_1 := id @f8r17.eq_1
def f8b18 : AQ := (.seq (.region f8r17) f8b16)
theorem uf8b18 (P ts os Q) : awl P f8b18 Q ts os = awl P (.seq (.region f8r17) f8b16) Q ts os := id rfl
def f8b19 : AQ := (.seq f8b18 f8b2)
theorem uf8b19 (P ts os Q) : awl P f8b19 Q ts os = awl P (.seq f8b18 f8b2) Q ts os := id rfl
def f8r20 : List AI := [⟨none, (.mov 58 (.t 14))⟩, ⟨none, (.bin 59 .add (.t 58) (.v (.k (.c (.int .i64 1)))))⟩, ⟨none, (.mov 14 (.t 59))⟩]
theorem uf8r20 : type_of% @f8r20.eq_1 := id @f8r20.eq_1
def f8r21 : List AI := [⟨none, (.mov 60 (.t 13))⟩, ⟨none, (.mov 61 (.t 14))⟩, ⟨none, (.mov 62 (.t 11))⟩, ⟨none, (.mov 63 (.t 14))⟩, ⟨none, (.call (some 64) 42 [(.t 62), (.t 63)])⟩, ⟨none, (.un 65 .not (.t 64))⟩, ⟨none, (.iaddr 66 1 (.t 60) (.t 61))⟩, ⟨none, (.store 1 (.t 66) (.t 65))⟩]
theorem uf8r21 : type_of% @f8r21.eq_1 := id @f8r21.eq_1
def f8b22 : AQ := (.block 1 (.region f8r21))
theorem uf8b22 (P ts os Q) : awl P f8b22 Q ts os = awl P (.block 1 (.region f8r21)) Q ts os := id rfl
def f8b23 : AQ := (.seq f8b22 (.region f8r20))
theorem uf8b23 (P ts os Q) : awl P f8b23 Q ts os = awl P (.seq f8b22 (.region f8r20)) Q ts os := id rfl
def f8b24 : AQ := (.cond (.t 57) .skip (.exit 0))
theorem uf8b24 (P ts os Q) : awl P f8b24 Q ts os = awl P (.cond (.t 57) .skip (.exit 0)) Q ts os := id rfl
def f8r25 : List AI := [⟨none, (.mov 54 (.t 14))⟩, ⟨none, (.mov 55 (.t 13))⟩, ⟨none, (.len 56 (.t 55))⟩, ⟨none, (.bin 57 .lss (.t 54) (.t 56))⟩]
theorem uf8r25 : type_of% @f8r25.eq_1 := id @f8r25.eq_1
def f8b26 : AQ := (.seq (.region f8r25) f8b24)
theorem uf8b26 (P ts os Q) : awl P f8b26 Q ts os = awl P (.seq (.region f8r25) f8b24) Q ts os := id rfl
def f8b27 : AQ := (.seq f8b26 f8b23)
theorem uf8b27 (P ts os Q) : awl P f8b27 Q ts os = awl P (.seq f8b26 f8b23) Q ts os := id rfl
def f8l28 : AQ := .loop [1, 2, 3, 7, 10, 11, 12, 13, 14] [3, 10, 41, 44, 46, 53, 42000, 42001, 42002, 45000, 45001, 45002, 47000, 47001, 47002] f8b27
theorem uf8l28 (P ts os Q) : awl P f8l28 Q ts os = awl P (.loop [1, 2, 3, 7, 10, 11, 12, 13, 14] [3, 10, 41, 44, 46, 53, 42000, 42001, 42002, 45000, 45001, 45002, 47000, 47001, 47002] f8b27) Q ts os := id rfl
def f8b29 : AQ := (.block 0 f8l28)
theorem uf8b29 (P ts os Q) : awl P f8b29 Q ts os = awl P (.block 0 f8l28) Q ts os := id rfl
def f8r30 : List AI := [⟨none, (.mov 14 (.v (.k (.c (.int .i64 0)))))⟩]
theorem uf8r30 : type_of% @f8r30.eq_1 := id @f8r30.eq_1
def f8b31 : AQ := (.seq (.region f8r30) f8b29)
theorem uf8b31 (P ts os Q) : awl P f8b31 Q ts os = awl P (.seq (.region f8r30) f8b29) Q ts os := id rfl
def f8b32 : AQ := (.seq f8b31 (.frz 53 f8b19))
theorem uf8b32 (P ts os Q) : awl P f8b32 Q ts os = awl P (.seq f8b31 (.frz 53 f8b19)) Q ts os := id rfl
def f8r33 : List AI := [⟨none, (.mkslice 53 4 1 1 [(.bool false)] (.v (.k (.c (.int .i64 20)))) (.v (.k (.c (.int .i64 20)))))⟩, ⟨none, (.mov 13 (.t 53))⟩]
theorem uf8r33 : type_of% @f8r33.eq_1 := id @f8r33.eq_1
def f8b34 : AQ := (.seq (.region f8r33) f8b32)
theorem uf8b34 (P ts os Q) : awl P f8b34 Q ts os = awl P (.seq (.region f8r33) f8b32) Q ts os := id rfl
def f8r35 : List AI := [⟨none, (.mov 6 (.v (.k (.c (.bool false)))))⟩]
theorem uf8r35 : type_of% @f8r35.eq_1 := id @f8r35.eq_1
def f8b36 : AQ := (.seq (.region f8r35) .ret)
theorem uf8b36 (P ts os Q) : awl P f8b36 Q ts os = awl P (.seq (.region f8r35) .ret) Q ts os := id rfl
def f8b37 : AQ := (.cond (.t 52) f8b36 .skip)
theorem uf8b37 (P ts os Q) : awl P f8b37 Q ts os = awl P (.cond (.t 52) f8b36 .skip) Q ts os := id rfl
def f8r38 : List AI := [⟨none, (.faddr 47 0 (.t 10))⟩, ⟨none, (.load 48 1 false (.t 47))⟩, ⟨none, (.mov 49 (.t 11))⟩, ⟨none, (.len 50 (.t 49))⟩, ⟨none, (.bin 51 .eql (.t 50) (.v (.k (.c (.int .i64 0)))))⟩, ⟨none, (.binB 52 true (.t 48) (.t 51))⟩]
theorem uf8r38 : type_of% @f8r38.eq_1 := id @f8r38.eq_1
def f8b39 : AQ := (.seq (.region f8r38) f8b37)
theorem uf8b39 (P ts os Q) : awl P f8b39 Q ts os = awl P (.seq (.region f8r38) f8b37) Q ts os := id rfl
def f8b40 : AQ := (.seq f8b39 f8b34)
theorem uf8b40 (P ts os Q) : awl P f8b40 Q ts os = awl P (.seq f8b39 f8b34) Q ts os := id rfl
def f8r41 : List AI := [⟨none, (.load 45 3 true (.t 3))⟩, ⟨none, (.call (some 46) 35 [(.t 45)])⟩, ⟨none, (.mov 12 (.t 46))⟩]
theorem uf8r41 : type_of% @f8r41.eq_1 := id @f8r41.eq_1
def f8b42 : AQ := (.seq (.region f8r41) f8b40)
theorem uf8b42 (P ts os Q) : awl P f8b42 Q ts os = awl P (.seq (.region f8r41) f8b40) Q ts os := id rfl
def f8r43 : List AI := [⟨none, (.load 42 3 true (.t 3))⟩, ⟨none, (.mov 43 (.t 1))⟩, ⟨none, (.call (some 44) 39 [(.t 42), (.t 43)])⟩, ⟨none, (.mov 11 (.t 44))⟩]
theorem uf8r43 : type_of% @f8r43.eq_1 := id @f8r43.eq_1
def f8b44 : AQ := (.seq (.region f8r43) f8b42)
theorem uf8b44 (P ts os Q) : awl P f8b44 Q ts os = awl P (.seq (.region f8r43) f8b42) Q ts os := id rfl
def f8r45 : List AI := [⟨none, (.load 39 3 true (.t 3))⟩, ⟨none, (.mov 40 (.t 1))⟩, ⟨none, (.call (some 41) 37 [(.t 39), (.t 40)])⟩, ⟨none, (.alloc 10 53 [(.bool false), (.int .i64 0)])⟩, ⟨none, (.store 2 (.t 10) (.t 41))⟩]
theorem uf8r45 : type_of% @f8r45.eq_1 := id @f8r45.eq_1
def f8b46 : AQ := (.seq (.region f8r45) f8b44)
theorem uf8b46 (P ts os Q) : awl P f8b46 Q ts os = awl P (.seq (.region f8r45) f8b44) Q ts os := id rfl
def f8r47 : List AI := [⟨none, (.mov 38 (.t 7))⟩, ⟨none, (.mov 6 (.t 38))⟩]
theorem uf8r47 : type_of% @f8r47.eq_1 := id @f8r47.eq_1
def f8b48 : AQ := (.seq (.region f8r47) .ret)
theorem uf8b48 (P ts os Q) : awl P f8b48 Q ts os = awl P (.seq (.region f8r47) .ret) Q ts os := id rfl
def f8b49 : AQ := (.cond (.t 37) f8b48 .skip)
theorem uf8b49 (P ts os Q) : awl P f8b49 Q ts os = awl P (.cond (.t 37) f8b48 .skip) Q ts os := id rfl
def f8r50 : List AI := [⟨none, (.mov 36 (.t 9))⟩, ⟨none, (.bin 37 .neq (.t 36) (.v (.k (.c (.int .i64 0)))))⟩]
theorem uf8r50 : type_of% @f8r50.eq_1 := id @f8r50.eq_1
def f8b51 : AQ := (.seq (.region f8r50) f8b49)
theorem uf8b51 (P ts os Q) : awl P f8b51 Q ts os = awl P (.seq (.region f8r50) f8b49) Q ts os := id rfl
def f8b52 : AQ := (.seq f8b51 f8b46)
theorem uf8b52 (P ts os Q) : awl P f8b52 Q ts os = awl P (.seq f8b51 f8b46) Q ts os := id rfl
def f8r53 : List AI := [⟨none, (.load 32 3 true (.t 3))⟩, ⟨none, (.call (some 33) 32 [(.t 32)])⟩, ⟨none, (.mov 31 (.t 33))⟩, ⟨none, (.extr 34 (.t 31) 0)⟩, ⟨none, (.extr 35 (.t 31) 1)⟩, ⟨none, (.mov 8 (.t 34))⟩, ⟨none, (.mov 9 (.t 35))⟩]
theorem uf8r53 : type_of% @f8r53.eq_1 := id @f8r53.eq_1
def f8b54 : AQ := (.seq (.region f8r53) f8b52)
theorem uf8b54 (P ts os Q) : awl P f8b54 Q ts os = awl P (.seq (.region f8r53) f8b52) Q ts os := id rfl
def f8r55 : List AI := [⟨none, (.mov 30 (.t 7))⟩, ⟨none, (.mov 6 (.t 30))⟩]
theorem uf8r55 : type_of% @f8r55.eq_1 := id @f8r55.eq_1
def f8b56 : AQ := (.seq (.region f8r55) .ret)
theorem uf8b56 (P ts os Q) : awl P f8b56 Q ts os = awl P (.seq (.region f8r55) .ret) Q ts os := id rfl
def f8b57 : AQ := (.cond (.t 29) f8b56 .skip)
theorem uf8b57 (P ts os Q) : awl P f8b57 Q ts os = awl P (.cond (.t 29) f8b56 .skip) Q ts os := id rfl
def f8r58 : List AI := [⟨none, (.load 17 3 true (.t 3))⟩, ⟨none, (.call (some 18) 30 [(.t 17)])⟩, ⟨none, (.un 19 .not (.t 18))⟩, ⟨none, (.mov 20 (.t 19))⟩, ⟨(some (20, false)), (.mov 21 (.t 1))⟩, ⟨(some (20, false)), (.len 22 (.t 21))⟩, ⟨(some (20, false)), (.bin 23 .gtr (.t 22) (.v (.k (.c (.int .i64 30)))))⟩, ⟨none, (.pick 24 (.t 20) (.v (.k (.c (.bool true)))) (.t 23))⟩, ⟨none, (.mov 25 (.t 24))⟩, ⟨(some (25, false)), (.mov 26 (.t 2))⟩, ⟨(some (25, false)), (.len 27 (.t 26))⟩, ⟨(some (25, false)), (.bin 28 .gtr (.t 27) (.v (.k (.c (.int .i64 30)))))⟩, ⟨none, (.pick 29 (.t 25) (.v (.k (.c (.bool true)))) (.t 28))⟩]
theorem uf8r58 : type_of% @f8r58.eq_1 := id @f8r58.eq_1
def f8b59 : AQ := (.seq (.region f8r58) f8b57)
theorem uf8b59 (P ts os Q) : awl P f8b59 Q ts os = awl P (.seq (.region f8r58) f8b57) Q ts os := id rfl
def f8b60 : AQ := (.seq f8b59 f8b54)
theorem uf8b60 (P ts os Q) : awl P f8b60 Q ts os = awl P (.seq f8b59 f8b54) Q ts os := id rfl
def f8r61 : List AI := [⟨none, (.call (some 16) 29 [])⟩, ⟨none, (.mov 7 (.t 16))⟩]
theorem uf8r61 : type_of% @f8r61.eq_1 := id @f8r61.eq_1
def f8b62 : AQ := (.seq (.region f8r61) f8b60)
theorem uf8b62 (P ts os Q) : awl P f8b62 Q ts os = awl P (.seq (.region f8r61) f8b60) Q ts os := id rfl
def f8r63 : List AI := [⟨none, (.box 3 41 (.t 0))⟩, ⟨none, (.mov 6 (.v (.k (.c (.bool false)))))⟩]
theorem uf8r63 : type_of% @f8r63.eq_1 := id @f8r63.eq_1
def f8b64 : AQ := (.seq (.region f8r63) f8b62)
theorem uf8b64 (P ts os Q) : awl P f8b64 Q ts os = awl P (.seq (.region f8r63) f8b62) Q ts os := id rfl
def f8 : AQ := f8b64
theorem uf8 (P ts os Q) : awl P f8 Q ts os = awl P f8b64 Q ts os := id rfl
theorem hf8 : cFunc Try.prog 8 = some ⟨121, f8.erase, [(RX.t 6)]⟩ := by kernel_rfl
theorem okf8 : f8.ok = true := by kernel_rfl
def f10r1 : List AI := [⟨none, (.mov 86 (.t 7))⟩, ⟨none, (.mov 87 (.t 86))⟩, ⟨(some (87, true)), (.load 88 3 true (.t 3))⟩, ⟨(some (87, true)), (.mov 89 (.t 11))⟩, ⟨(some (87, true)), (.call (some 90) 37 [(.t 88), (.t 89)])⟩, ⟨(some (87, true)), (.load 91 2 true (.t 15))⟩, ⟨(some (87, true)), (.eqAgg 92 false [.bool, .int] (.t 90) (.t 91))⟩, ⟨none, (.pick 93 (.t 87) (.t 92) (.v (.k (.c (.bool false)))))⟩, ⟨none, (.mov 94 (.t 93))⟩, ⟨(some (94, true)), (.mov 95 (.t 12))⟩, ⟨(some (94, true)), (.un 96 .not (.t 95))⟩, ⟨(some (94, true)), (.mov 97 (.t 96))⟩, ⟨(some (97, false)), (.faddr 98 0 (.t 15))⟩, ⟨(some (97, false)), (.load 99 1 false (.t 98))⟩, ⟨(some (97, false)), (.mov 100 (.t 99))⟩, ⟨(some (100, true)), (.load 101 3 true (.t 3))⟩, ⟨(some (100, true)), (.mov 102 (.t 1))⟩, ⟨(some (100, true)), (.call (some 103) 39 [(.t 101), (.t 102)])⟩, ⟨(some (100, true)), (.len 104 (.t 103))⟩, ⟨(some (100, true)), (.bin 105 .eql (.t 104) (.v (.k (.c (.int .i64 0)))))⟩, ⟨(some (97, false)), (.pick 106 (.t 100) (.t 105) (.v (.k (.c (.bool false)))))⟩, ⟨(some (94, true)), (.pick 107 (.t 97) (.v (.k (.c (.bool true)))) (.t 106))⟩, ⟨none, (.pick 108 (.t 94) (.t 107) (.v (.k (.c (.bool false)))))⟩, ⟨none, (.mov 6 (.t 108))⟩]
theorem uf10r1 : type_of% @f10r1.eq_1 := id @f10r1.eq_1
def f10b2 : AQ := (.seq (.draw f10r1 [[], [0], [1], [1], [2, 3, 1, 1], [1], [4, 5, 1], [1, 6], [7, 4], [8], [9, 8], [10, 8, 8], [11], [12, 11], [13, 11, 11], [14], [14], [15, 16, 14, 14], [17, 14], [18, 14], [14, 19, 11], [11, 20, 8], [8, 21], [22, 17, 0, 1, 2, 3, 4, 5, 6, 7, 8, 9, 10, 11, 12, 13, 14, 15, 16, 17, 18, 19, 20, 21, 22]]) .ret)
theorem uf10b2 (P ts os Q) : awl P f10b2 Q ts os = awl P (.seq (.draw f10r1 [[], [0], [1], [1], [2, 3, 1, 1], [1], [4, 5, 1], [1, 6], [7, 4], [8], [9, 8], [10, 8, 8], [11], [12, 11], [13, 11, 11], [14], [14], [15, 16, 14, 14], [17, 14], [18, 14], [14, 19, 11], [11, 20, 8], [8, 21], [22, 17, 0, 1, 2, 3, 4, 5, 6, 7, 8, 9, 10, 11, 12, 13, 14, 15, 16, 17, 18, 19, 20, 21, 22]]) .ret) Q ts os := id rfl
def f10r3 : List AI := [⟨none, (.load 83 3 true (.t 3))⟩, ⟨none, (.mov 84 (.t 1))⟩, ⟨none, (.call (some 85) 37 [(.t 83), (.t 84)])⟩, ⟨none, (.alloc 15 53 [(.bool false), (.int .i64 0)])⟩, ⟨none, (.store 2 (.t 15) (.t 85))⟩]
theorem uf10r3 : type_of% @f10r3.eq_1 := id @f10r3.eq_1
def f10b4 : AQ := (.seq (.region f10r3) f10b2)
theorem uf10b4 (P ts os Q) : awl P f10b4 Q ts os = awl P (.seq (.region f10r3) f10b2) Q ts os := id rfl
def f10r5 : List AI := [⟨none, (.mov 46 (.t 13))⟩, ⟨none, (.bin 47 .add (.t 46) (.v (.k (.c (.int .i64 1)))))⟩, ⟨none, (.mov 13 (.t 47))⟩]
theorem uf10r5 : type_of% @f10r5.eq_1 := id @f10r5.eq_1
def f10r6 : List AI := [⟨none, (.mov 76 (.t 11))⟩, ⟨none, (.mov 77 (.t 13))⟩, ⟨none, (.mov 78 (.t 14))⟩, ⟨none, (.mov 79 (.t 13))⟩, ⟨none, (.iaddr 80 2 (.t 78) (.t 79))⟩, ⟨none, (.load 81 2 true (.t 80))⟩, ⟨none, (.iaddr 82 2 (.t 76) (.t 77))⟩, ⟨none, (.store 2 (.t 82) (.t 81))⟩]
theorem uf10r6 : type_of% @f10r6.eq_1 := id @f10r6.eq_1
def f10b7 : AQ := (.cond (.t 75) (.region f10r6) .skip)
theorem uf10b7 (P ts os Q) : awl P f10b7 Q ts os = awl P (.cond (.t 75) (.region f10r6) .skip) Q ts os := id rfl
def f10r8 : List AI := [⟨none, (.mov 72 (.t 13))⟩, ⟨none, (.mov 73 (.t 14))⟩, ⟨none, (.len 74 (.t 73))⟩, ⟨none, (.bin 75 .lss (.t 72) (.t 74))⟩]
theorem uf10r8 : type_of% @f10r8.eq_1 := id @f10r8.eq_1
def f10b9 : AQ := (.seq (.region f10r8) f10b7)
theorem uf10b9 (P ts os Q) : awl P f10b9 Q ts os = awl P (.seq (.region f10r8) f10b7) Q ts os := id rfl
def f10r10 : List AI := [⟨none, (.mov 64 (.t 12))⟩, ⟨none, (.mov 65 (.t 64))⟩, ⟨(some (65, true)), (.mov 66 (.t 1))⟩, ⟨(some (65, true)), (.mov 67 (.t 13))⟩, ⟨(some (65, true)), (.iaddr 68 2 (.t 66) (.t 67))⟩, ⟨(some (65, true)), (.faddr 69 0 (.t 68))⟩, ⟨(some (65, true)), (.load 70 1 false (.t 69))⟩, ⟨none, (.pick 71 (.t 65) (.t 70) (.v (.k (.c (.bool false)))))⟩, ⟨none, (.mov 12 (.t 71))⟩]
theorem uf10r10 : type_of% @f10r10.eq_1 := id @f10r10.eq_1
def f10b11 : AQ := (.cond (.t 63) (.region f10r10) .skip)
theorem uf10b11 (P ts os Q) : awl P f10b11 Q ts os = awl P (.cond (.t 63) (.region f10r10) .skip) Q ts os := id rfl
def f10r12 : List AI := [⟨none, (.mov 60 (.t 13))⟩, ⟨none, (.mov 61 (.t 1))⟩, ⟨none, (.len 62 (.t 61))⟩, ⟨none, (.bin 63 .lss (.t 60) (.t 62))⟩]
theorem uf10r12 : type_of% @f10r12.eq_1 := id @f10r12.eq_1
def f10b13 : AQ := (.seq (.region f10r12) f10b11)
theorem uf10b13 (P ts os Q) : awl P f10b13 Q ts os = awl P (.seq (.region f10r12) f10b11) Q ts os := id rfl
def f10r14 : List AI := [⟨none, (.mov 53 (.t 12))⟩, ⟨none, (.mov 54 (.t 53))⟩, ⟨(some (54, true)), (.mov 55 (.t 13))⟩, ⟨(some (54, true)), (.mov 56 (.t 1))⟩, ⟨(some (54, true)), (.len 57 (.t 56))⟩, ⟨(some (54, true)), (.bin 58 .lss (.t 55) (.t 57))⟩, ⟨none, (.pick 59 (.t 54) (.t 58) (.v (.k (.c (.bool false)))))⟩, ⟨none, (.mov 12 (.t 59))⟩]
theorem uf10r14 : type_of% @f10r14.eq_1 := id @f10r14.eq_1
def f10b15 : AQ := (.seq (.region f10r14) f10b13)
theorem uf10b15 (P ts os Q) : awl P f10b15 Q ts os = awl P (.seq (.region f10r14) f10b13) Q ts os := id rfl
def f10r16 : List AI := [⟨none, (.mov 52 (.t 1))⟩, ⟨none, (.mov 14 (.t 52))⟩]
theorem uf10r16 : type_of% @f10r16.eq_1 := id @f10r16.eq_1
def f10b17 : AQ := (.seq (.region f10r16) f10b15)
theorem uf10b17 (P ts os Q) : awl P f10b17 Q ts os = awl P (.seq (.region f10r16) f10b15) Q ts os := id rfl
def f10b18 : AQ := (.cond (.t 51) f10b17 .skip)
theorem uf10b18 (P ts os Q) : awl P f10b18 Q ts os = awl P (.cond (.t 51) f10b17 .skip) Q ts os := id rfl
def f10r19 : List AI := [⟨none, (.mov 49 (.t 10))⟩, ⟨none, (.mov 50 (.t 13))⟩, ⟨none, (.call (some 51) 42 [(.t 49), (.t 50)])⟩]
theorem uf10r19 : type_of% @f10r19.eq_1 := id @f10r19.eq_1
def f10b20 : AQ := (.seq (.region f10r19) f10b18)
theorem uf10b20 (P ts os Q) : awl P f10b20 Q ts os = awl P (.seq (.region f10r19) f10b18) Q ts os := id rfl
def f10b21 : AQ := (.seq f10b20 f10b9)
theorem uf10b21 (P ts os Q) : awl P f10b21 Q ts os = awl P (.seq f10b20 f10b9) Q ts os := id rfl
def f10r22 : List AI := [⟨none, (.mov 48 (.t 2))⟩, ⟨none, (.mov 14 (.t 48))⟩]
theorem uf10r22 : type_of% @f10r22.eq_1 := id @f10r22.eq_1
def f10b23 : AQ := (.seq (.region f10r22) f10b21)
theorem uf10b23 (P ts os Q) : awl P f10b23 Q ts os = awl P (.seq (.region f10r22) f10b21) Q ts os := id rfl
def f10b24 : AQ := (.block 1 f10b23)
theorem uf10b24 (P ts os Q) : awl P f10b24 Q ts os = awl P (.block 1 f10b23) Q ts os := id rfl
def f10b25 : AQ := (.seq f10b24 (.region f10r5))
theorem uf10b25 (P ts os Q) : awl P f10b25 Q ts os = awl P (.seq f10b24 (.region f10r5)) Q ts os := id rfl
def f10b26 : AQ := (.cond (.t 45) .skip (.exit 0))
theorem uf10b26 (P ts os Q) : awl P f10b26 Q ts os = awl P (.cond (.t 45) .skip (.exit 0)) Q ts os := id rfl
def f10r27 : List AI := [⟨none, (.mov 42 (.t 13))⟩, ⟨none, (.mov 43 (.t 11))⟩, ⟨none, (.len 44 (.t 43))⟩, ⟨none, (.bin 45 .lss (.t 42) (.t 44))⟩]
theorem uf10r27 : type_of% @f10r27.eq_1 := id @f10r27.eq_1
def f10b28 : AQ := (.seq (.region f10r27) f10b26)
theorem uf10b28 (P ts os Q) : awl P f10b28 Q ts os = awl P (.seq (.region f10r27) f10b26) Q ts os := id rfl
def f10b29 : AQ := (.seq f10b28 f10b25)
theorem uf10b29 (P ts os Q) : awl P f10b29 Q ts os = awl P (.seq f10b28 f10b25) Q ts os := id rfl
def f10l30 : AQ := .loop [1, 2, 3, 7, 10, 11, 12, 13] [3, 40, 41, 41000, 41001, 41002] f10b29
theorem uf10l30 (P ts os Q) : awl P f10l30 Q ts os = awl P (.loop [1, 2, 3, 7, 10, 11, 12, 13] [3, 40, 41, 41000, 41001, 41002] f10b29) Q ts os := id rfl
def f10b31 : AQ := (.block 0 f10l30)
theorem uf10b31 (P ts os Q) : awl P f10b31 Q ts os = awl P (.block 0 f10l30) Q ts os := id rfl
def f10r32 : List AI := [⟨none, (.mov 13 (.v (.k (.c (.int .i64 0)))))⟩]
theorem uf10r32 : type_of% @f10r32.eq_1 := id @f10r32.eq_1
def f10b33 : AQ := (.seq (.region f10r32) f10b31)
theorem uf10b33 (P ts os Q) : awl P f10b33 Q ts os = awl P (.seq (.region f10r32) f10b31) Q ts os := id rfl
def f10b34 : AQ := (.seq f10b33 (.frz 41 f10b4))
theorem uf10b34 (P ts os Q) : awl P f10b34 Q ts os = awl P (.seq f10b33 (.frz 41 f10b4)) Q ts os := id rfl
def f10r35 : List AI := [⟨none, (.mov 12 (.v (.k (.c (.bool true)))))⟩]
theorem uf10r35 : type_of% @f10r35.eq_1 := id @f10r35.eq_1
def f10b36 : AQ := (.seq (.region f10r35) f10b34)
theorem uf10b36 (P ts os Q) : awl P f10b36 Q ts os = awl P (.seq (.region f10r35) f10b34) Q ts os := id rfl
def f10r37 : List AI := [⟨none, (.mkslice 41 53 2 16 [(.bool false), (.int .i64 0)] (.v (.k (.c (.int .i64 20)))) (.v (.k (.c (.int .i64 20)))))⟩, ⟨none, (.mov 11 (.t 41))⟩]
theorem uf10r37 : type_of% @f10r37.eq_1 := id @f10r37.eq_1
def f10b38 : AQ := (.seq (.region f10r37) f10b36)
theorem uf10b38 (P ts os Q) : awl P f10b38 Q ts os = awl P (.seq (.region f10r37) f10b36) Q ts os := id rfl
def f10r39 : List AI := [⟨none, (.load 39 3 true (.t 3))⟩, ⟨none, (.call (some 40) 35 [(.t 39)])⟩, ⟨none, (.mov 10 (.t 40))⟩]
theorem uf10r39 : type_of% @f10r39.eq_1 := id @f10r39.eq_1
def f10b40 : AQ := (.seq (.region f10r39) f10b38)
theorem uf10b40 (P ts os Q) : awl P f10b40 Q ts os = awl P (.seq (.region f10r39) f10b38) Q ts os := id rfl
def f10r41 : List AI := [⟨none, (.mov 38 (.t 7))⟩, ⟨none, (.mov 6 (.t 38))⟩]
theorem uf10r41 : type_of% @f10r41.eq_1 := id @f10r41.eq_1
def f10b42 : AQ := (.seq (.region f10r41) .ret)
theorem uf10b42 (P ts os Q) : awl P f10b42 Q ts os = awl P (.seq (.region f10r41) .ret) Q ts os := id rfl
def f10b43 : AQ := (.cond (.t 37) f10b42 .skip)
theorem uf10b43 (P ts os Q) : awl P f10b43 Q ts os = awl P (.cond (.t 37) f10b42 .skip) Q ts os := id rfl
def f10r44 : List AI := [⟨none, (.mov 36 (.t 9))⟩, ⟨none, (.bin 37 .neq (.t 36) (.v (.k (.c (.int .i64 0)))))⟩]
theorem uf10r44 : type_of% @f10r44.eq_1 := id @f10r44.eq_1
def f10b45 : AQ := (.seq (.region f10r44) f10b43)
theorem uf10b45 (P ts os Q) : awl P f10b45 Q ts os = awl P (.seq (.region f10r44) f10b43) Q ts os := id rfl
def f10b46 : AQ := (.seq f10b45 f10b40)
theorem uf10b46 (P ts os Q) : awl P f10b46 Q ts os = awl P (.seq f10b45 f10b40) Q ts os := id rfl
def f10r47 : List AI := [⟨none, (.load 32 3 true (.t 3))⟩, ⟨none, (.call (some 33) 32 [(.t 32)])⟩, ⟨none, (.mov 31 (.t 33))⟩, ⟨none, (.extr 34 (.t 31) 0)⟩, ⟨none, (.extr 35 (.t 31) 1)⟩, ⟨none, (.mov 8 (.t 34))⟩, ⟨none, (.mov 9 (.t 35))⟩]
theorem uf10r47 : type_of% @f10r47.eq_1 := id @f10r47.eq_1
def f10b48 : AQ := (.seq (.region f10r47) f10b46)
theorem uf10b48 (P ts os Q) : awl P f10b48 Q ts os = awl P (.seq (.region f10r47) f10b46) Q ts os := id rfl
def f10r49 : List AI := [⟨none, (.mov 30 (.t 7))⟩, ⟨none, (.mov 6 (.t 30))⟩]
theorem uf10r49 : type_of% @f10r49.eq_1 := id @f10r49.eq_1
def f10b50 : AQ := (.seq (.region f10r49) .ret)
theorem uf10b50 (P ts os Q) : awl P f10b50 Q ts os = awl P (.seq (.region f10r49) .ret) Q ts os := id rfl
def f10b51 : AQ := (.cond (.t 29) f10b50 .skip)
theorem uf10b51 (P ts os Q) : awl P f10b51 Q ts os = awl P (.cond (.t 29) f10b50 .skip) Q ts os := id rfl
def f10r52 : List AI := [⟨none, (.load 17 3 true (.t 3))⟩, ⟨none, (.call (some 18) 30 [(.t 17)])⟩, ⟨none, (.un 19 .not (.t 18))⟩, ⟨none, (.mov 20 (.t 19))⟩, ⟨(some (20, false)), (.mov 21 (.t 1))⟩, ⟨(some (20, false)), (.len 22 (.t 21))⟩, ⟨(some (20, false)), (.bin 23 .gtr (.t 22) (.v (.k (.c (.int .i64 30)))))⟩, ⟨none, (.pick 24 (.t 20) (.v (.k (.c (.bool true)))) (.t 23))⟩, ⟨none, (.mov 25 (.t 24))⟩, ⟨(some (25, false)), (.mov 26 (.t 2))⟩, ⟨(some (25, false)), (.len 27 (.t 26))⟩, ⟨(some (25, false)), (.bin 28 .gtr (.t 27) (.v (.k (.c (.int .i64 30)))))⟩, ⟨none, (.pick 29 (.t 25) (.v (.k (.c (.bool true)))) (.t 28))⟩]
theorem uf10r52 : type_of% @f10r52.eq_1 := id @f10r52.eq_1
def f10b53 : AQ := (.seq (.region f10r52) f10b51)
theorem uf10b53 (P ts os Q) : awl P f10b53 Q ts os = awl P (.seq (.region f10r52) f10b51) Q ts os := id rfl
def f10b54 : AQ := (.seq f10b53 f10b48)
theorem uf10b54 (P ts os Q) : awl P f10b54 Q ts os = awl P (.seq f10b53 f10b48) Q ts os := id rfl
def f10r55 : List AI := [⟨none, (.call (some 16) 29 [])⟩, ⟨none, (.mov 7 (.t 16))⟩]
theorem uf10r55 : type_of% @f10r55.eq_1 := id @f10r55.eq_1
def f10b56 : AQ := (.seq (.region f10r55) f10b54)
theorem uf10b56 (P ts os Q) : awl P f10b56 Q ts os = awl P (.seq (.region f10r55) f10b54) Q ts os := id rfl
def f10r57 : List AI := [⟨none, (.box 3 41 (.t 0))⟩, ⟨none, (.mov 6 (.v (.k (.c (.bool false)))))⟩]
theorem uf10r57 : type_of% @f10r57.eq_1 := id @f10r57.eq_1
def f10b58 : AQ := (.seq (.region f10r57) f10b56)
theorem uf10b58 (P ts os Q) : awl P f10b58 Q ts os = awl P (.seq (.region f10r57) f10b56) Q ts os := id rfl
def f10 : AQ := f10b58
theorem uf10 (P ts os Q) : awl P f10 Q ts os = awl P f10b58 Q ts os := id rfl
theorem hf10 : cFunc Try.prog 10 = some ⟨109, f10.erase, [(RX.t 6)]⟩ := by kernel_rfl
theorem okf10 : f10.ok = true := by kernel_rfl
end Go.Abs


namespace Go.Abs
theorem wrap_in {n : Int} (h1 : -9223372036854775808 ≤ n) (h2 : n ≤ 9223372036854775807) : IntKind.i64.wrap n = n := IntWalk.i64_in n ⟨h1, h2⟩
def lstC (sz : Nat) (rows : List (List C)) : C := .list (if rows.isEmpty then 0 else sz) none rows
abbrev lst (sz : Nat) (rows : List (List C)) : V := .k (.c (lstC sz rows))
def ints (l : List Int) : List (List C) := l.map fun n => [.int .i64 n]
theorem map_isEmpty {α β : Type} (f : α → β) (l : List α) : (l.map f).isEmpty = l.isEmpty := by cases l <;> rfl
theorem sz_of {α : Type} {l : List α} {i sz : Nat} (h : i < l.length) : (if l.isEmpty = true then 0 else sz) = sz := by cases l <;> simp at h ⊢
theorem map_at {α : Type} {f : α → List C} {l : List α} {i : Nat} (h : i < l.length) : (l.map f).getD i [] = f l[i] := by simp [h]
theorem map_len {α : Type} (f : α → List C) (l : List α) : (l.map f).length = l.length := by simp
theorem normRows_eq {α : Type} {f : α → List C} (hf : ∀ x, C.normRow (f x) = f x) (l : List α) : C.normRows (l.map f) = l.map f := by
  induction l with
  | nil => rfl
  | cons a l ih => simp [C.normRows, hf, ih]
theorem lstC_norm {α : Type} {f : α → List C} (hf : ∀ x, C.normRow (f x) = f x) (sz : Nat) (l : List α) : (lstC sz (l.map f)).norm = lstC sz (l.map f) := by
  unfold lstC
  simp only [C.norm, normRows_eq hf]
  cases l <;> simp
inductive Term where
  | mk (op n : Int) (args : List Term)
  deriving Inhabited
def Term.op : Term → Int | .mk o _ _ => o
def Term.n : Term → Int | .mk _ n _ => n
def Term.args : Term → List Term | .mk _ _ a => a
mutual
def encT : Term → List C
  | .mk o n a => [.int .i64 o, .int .i64 n, lstC 3 (encTs a)]
def encTs : List Term → List (List C)
  | [] => []
  | t :: l => encT t :: encTs l
end
theorem encTs_map : ∀ (l : List Term), encTs l = l.map encT
  | [] => rfl
  | t :: l => by simp [encTs, encTs_map l]
theorem encT_eq (t : Term) : encT t = [.int .i64 t.op, .int .i64 t.n, lstC 3 (t.args.map encT)] := by
  cases t with
  | mk o n a => simp [encT, Term.op, Term.n, Term.args, encTs_map]
mutual
theorem encT_norm : ∀ (t : Term), C.normRow (encT t) = encT t
  | .mk o n a => by
    simp only [encT, C.normRow, C.norm, lstC, encTs_norm a]
    cases a <;> simp [encTs]
theorem encTs_norm : ∀ (l : List Term), C.normRows (encTs l) = encTs l
  | [] => rfl
  | t :: l => by simp only [encTs, C.normRows, encT_norm t, encTs_norm l]
end
theorem encT_len (t : Term) : (encT t).length = 3 := by rw [encT_eq]; rfl
structure Choice where
  ask : Int
  by_ : Int
  whole : Bool
  deriving Inhabited
structure Rule where
  ask : Int
  term : Term
  deriving Inhabited
structure Order where
  name : List UInt8
  accepts : Bool
  choices : List Choice
  rules : List Rule
  deriving Inhabited
def encChoice (c : Choice) : List C := [.int .i64 c.ask, .int .i64 c.by_, .bool c.whole]
def encRule (r : Rule) : List C := .int .i64 r.ask :: encT r.term
def encOrder (o : Order) : List C := [.str o.name, .bool o.accepts, lstC 3 (o.choices.map encChoice), lstC 4 (o.rules.map encRule)]
theorem encChoice_norm (c : Choice) : C.normRow (encChoice c) = encChoice c := rfl
theorem encRule_norm (r : Rule) : C.normRow (encRule r) = encRule r := by simp [encRule, C.normRow, C.norm, encT_norm]
theorem encOrder_norm (o : Order) : C.normRow (encOrder o) = encOrder o := by
  simp only [encOrder, C.normRow, C.norm, lstC_norm encChoice_norm, lstC_norm encRule_norm]
structure Cell where
  known : Bool
  n : Int
  deriving Inhabited
def encCell (c : Cell) : List C := [.bool c.known, .int .i64 c.n]
theorem encCell_norm (c : Cell) : C.normRow (encCell c) = encCell c := rfl
def encI (n : Int) : List C := [.int .i64 n]
@[simp] theorem normRow_int (k : IntKind) (n : Int) : C.normRow [.int k n] = [.int k n] := rfl
@[simp] theorem normRow_encI (n : Int) : C.normRow (encI n) = encI n := rfl
attribute [simp] encT_norm encChoice_norm encRule_norm encOrder_norm encCell_norm C.normRow
@[simp] theorem norm_int (k : IntKind) (n : Int) : (C.int k n).norm = .int k n := rfl
@[simp] theorem norm_bool (b : Bool) : (C.bool b).norm = .bool b := rfl
@[simp] theorem norm_str (s : List UInt8) : (C.str s).norm = .str s := rfl
@[simp] theorem norm_ro (row : List C) (off : Nat) : (C.ro row off).norm = .ro (C.normRow row) off := rfl
@[simp] theorem norm_fn (f : FuncId) (caps : List C) : (C.fn f caps).norm = .fn f (C.normRow caps) := rfl
@[simp] theorem normRows_T (l : List Term) : C.normRows (l.map encT) = l.map encT := normRows_eq encT_norm l
@[simp] theorem normRows_Ch (l : List Choice) : C.normRows (l.map encChoice) = l.map encChoice := normRows_eq encChoice_norm l
@[simp] theorem normRows_R (l : List Rule) : C.normRows (l.map encRule) = l.map encRule := normRows_eq encRule_norm l
@[simp] theorem normRows_O (l : List Order) : C.normRows (l.map encOrder) = l.map encOrder := normRows_eq encOrder_norm l
@[simp] theorem normRows_Ce (l : List Cell) : C.normRows (l.map encCell) = l.map encCell := normRows_eq encCell_norm l
@[simp] theorem normRows_ints (l : List Int) : C.normRows (ints l) = ints l := normRows_eq (fun _ => rfl) l
@[simp] theorem normRows_nil : C.normRows [] = [] := rfl
@[simp] theorem normRows_cons (r : List C) (l : List (List C)) : C.normRows (r :: l) = C.normRow r :: C.normRows l := rfl
@[simp] theorem ints_len (l : List Int) : (ints l).length = l.length := by simp [ints]
theorem ints_at {l : List Int} {i : Nat} (h : i < l.length) : (ints l).getD i [] = [.int .i64 l[i]] := by simp [ints, h]
@[simp] theorem ints_isEmpty (l : List Int) : (ints l).isEmpty = l.isEmpty := by cases l <;> rfl
theorem ints_snoc (l : List Int) (n : Int) : ints l ++ [[.int .i64 n]] = ints (l ++ [n]) := by simp [ints]
theorem ints_append (l m : List Int) : ints l ++ ints m = ints (l ++ m) := by simp [ints]
theorem r_vLen_lst (o : Nat → Option O) (sz : Nat) (rows : List (List C)) : vLen o (.k (.c (lstC sz rows))) = some (True, .int .i64 rows.length) := rfl
theorem r_vIaddr_lst (o : Nat → Option O) (sz : Nat) (rows : List (List C)) (k : IntKind) (n : Int) : vIaddr o sz (.k (.c (lstC sz rows))) (.k (.c (.int k n))) = some (0 ≤ n ∧ n < rows.length, .k (.pel sz rows n.toNat 0)) := by
  simp only [lstC, vIaddr, Option.some.injEq, Prod.mk.injEq]
  cases rows with
  | nil => simp; omega
  | cons a l =>
    refine ⟨?_, ?_⟩
    · simp
    · simp
theorem r_srcV_lst (os : OS) (sz : Nat) (rows : List (List C)) : srcV os sz (.k (.c (lstC sz rows))) = some (True, rows) := by
  simp only [lstC, srcV]
  cases rows <;> simp
@[simp] theorem norm_lst (sz : Nat) (rows : List (List C)) : (lstC sz rows).norm = lstC sz (C.normRows rows) := by
  unfold lstC
  simp only [C.norm]
  cases rows <;> simp [C.normRows]
@[simp] theorem norm_list (sz : Nat) (nl : Option Bool) (rows : List (List C)) : (C.list sz nl rows).norm = lstC sz (C.normRows rows) := by
  unfold lstC
  simp only [C.norm]
  cases rows <;> simp [C.normRows]
theorem r_ofRow_map (r : List C) : ofRow true (r.map Abs.K.c) = .agg r := by
  simp only [ofRow, pureRow_map, if_true]
theorem r_ofRow_take {r : List C} {n : Nat} (h : r.length = n) : ofRow true (List.take n (r.map Abs.K.c)) = .agg r := by
  rw [List.take_of_length_le (by simp; omega)]; exact r_ofRow_map r
theorem r_all_noRef (d : Nat) (r : List C) : (r.map Abs.K.c).all (Abs.K.noRef d) = true := by induction r <;> simp_all [Abs.K.noRef]
theorem r_map_scrub (τ : Nat) (r : List C) : (r.map Abs.K.c).map (Abs.K.scrub τ) = r.map Abs.K.c := by simp [Abs.K.scrub]
theorem r_map_nrm (r : List C) : (r.map Abs.K.c).map Abs.K.nrm = (C.normRow r).map Abs.K.c := by
  induction r with
  | nil => rfl
  | cons a r ih => simp only [List.map_cons, ih]; rfl
theorem r_map_frz (τ : Nat) (ob : O) (r : List C) : (r.map Abs.K.c).map (Abs.K.frz τ ob) = r.map Abs.K.c := by simp [Abs.K.frz]
theorem encCell_len (r : Cell) : (encCell r).length = 2 := by simp [encCell]
theorem len_lst {sz : Nat} {rows : List (List C)} {l : List V} (hm : lst sz rows ∈ l) (h : ∀ v, v ∈ l → ∀ c, c ∈ v.topC → ∀ sz nl rows, c = .list sz nl rows → rows.length ≤ 9223372036854775807) : rows.length ≤ 9223372036854775807 :=
  h _ hm (lstC sz rows) (by simp [V.topC]) _ _ _ rfl
theorem b_tf : (true == false) = false := id rfl
theorem b_ft : (false == true) = false := id rfl
section
variable {P : Program} {f : FuncId} {vs : List V} {K : KK} {d : Nat} {ts : TS} {os : OS}
theorem call_s {args : List V} {r : V} {X : Prop} (hs : Spec P f args (fun r' => r' = r)) (hk : K (insT d r ts) os)
    (hp : vs.all (fun v => (lendL os v).isPure) = true := by simp [lendL, lendO, lookO, V.isPure])
    (ha : vs.map (fun v => (lendL os v).norm) = args := by simp [lendL, lendO, lookO, V.norm, encT_eq, encRule, encOrder, encChoice, encCell, norm_list, lst]) (hr : r.scalar = true := by rfl) : callK P f vs [] K (some d) ts os ∨ X := by
  refine .inl ⟨hp, r, .inl ?_, ?_⟩
  · simpa [ha] using hs
  · rw [if_pos hr]; exact hk
theorem call_r {args : List V} {r : V} {X : Prop} (hs : Spec P f args (fun r' => r' = r)) (hk : retK r K ts os (some d))
    (hp : vs.all (fun v => (lendL os v).isPure) = true := by simp [lendL, lendO, lookO, V.isPure])
    (ha : vs.map (fun v => (lendL os v).norm) = args := by simp [lendL, lendO, lookO, V.norm, encT_eq, encRule, encOrder, encChoice, encCell, norm_list, lst])
    (ht : vs.all (fun v => v.toks.isEmpty) = true := by simp [V.toks, K.toks]) (hr : r.scalar = false := by rfl) : callK P f vs [] K (some d) ts os ∨ X := by
  refine .inl ⟨hp, r, .inl (by simpa [ha] using hs), ?_⟩
  rw [if_neg (by simp [hr])]
  exact ⟨ht, hk⟩
theorem call_l {args : List V} {e sz : Nat} {nl : Option Bool} {rows : List (List C)} {X : Prop} (hs : Spec P f args (fun r' => r' = .k (.newl e sz nl rows))) (hk : K (insT d (.k (.own d)) ts) (insO d (.arr e sz nl rows) os))
    (hp : vs.all (fun v => (lendL os v).isPure) = true := by simp [lendL, lendO, lookO, V.isPure])
    (ha : vs.map (fun v => (lendL os v).norm) = args := by simp [lendL, lendO, lookO, V.norm, encT_eq, encRule, encOrder, encChoice, encCell, norm_list, lst])
    (ht : vs.all (fun v => v.toks.isEmpty) = true := by simp [V.toks, K.toks]) (hf : freeB d ts os := by first | rfl | simp [freeB, freeT, freeO, V.noRef, V.noRefL, O.noRef, Abs.K.noRef, r_all_noRef]) : callK P f vs [] K (some d) ts os ∨ X := by
  refine .inl ⟨hp, _, .inl (by simpa [ha] using hs), ?_⟩
  rw [if_neg (by simp [V.scalar])]
  refine ⟨ht, ?_⟩
  show regK _ _ _ _ _ _
  refine ⟨⟨⟨hf, .inl rfl⟩, trivial⟩, hk⟩
theorem callQ_s {args : List V} {r : V} (hs : Spec P f args (fun r' => r' = r)) (hk : K (insT d r.fz ts) os)
    (hp : vs.all (fun v => (lendL os v).isPure) = true := by simp [lendL, lendO, lookO, V.isPure])
    (ha : vs.map (fun v => (lendL os v).norm) = args := by simp [lendL, lendO, lookO, V.norm, encT_eq, encRule, encOrder, encChoice, encCell, norm_list, lst]) (hr : r.scalar = true := by rfl) : callQK P f vs [] K d ts os :=
  ⟨hp, r, by simpa [ha] using hs, .inl hr, hk⟩
theorem callQ_l {args : List V} {r : V} (hs : Spec P f args (fun r' => r' = r)) (hk : K (insT d r.fz ts) os)
    (hp : vs.all (fun v => (lendL os v).isPure) = true := by simp [lendL, lendO, lookO, V.isPure])
    (ha : vs.map (fun v => (lendL os v).norm) = args := by simp [lendL, lendO, lookO, V.norm, encT_eq, encRule, encOrder, encChoice, encCell, norm_list, lst]) (hr : vs.all (fun v => v.toks.isEmpty) = true := by simp [V.toks, K.toks]) : callQK P f vs [] K d ts os :=
  ⟨hp, r, by simpa [ha] using hs, .inr hr, hk⟩
theorem call_scalar {args : List V} {r : V} {X : Prop} (hs : Spec P f args (fun r' => r' = r)) (hp : vs.all (fun v => (lendL os v).isPure) = true) (ha : vs.map (fun v => (lendL os v).norm) = args) (hr : r.scalar = true)
    (hk : K (insT d r ts) os) : callK P f vs [] K (some d) ts os ∨ X := by
  refine .inl ⟨hp, r, .inl ?_, ?_⟩
  · simpa [ha] using hs
  · rw [if_pos hr]; exact hk
theorem callQ_scalar {args : List V} {r : V} (hs : Spec P f args (fun r' => r' = r)) (hp : vs.all (fun v => (lendL os v).isPure) = true) (ha : vs.map (fun v => (lendL os v).norm) = args) (hr : r.scalar = true)
    (hk : K (insT d r.fz ts) os) : callQK P f vs [] K d ts os :=
  ⟨hp, r, by simpa [ha] using hs, .inl hr, hk⟩
end
end Go.Abs


set_option maxRecDepth 100000
namespace Go.Abs
theorem Qs : (((((((type_of% @q_insT_eq_1 ∧ type_of% @lookT_here) ∧ (type_of% @q_look_eq_1 ∧ type_of% @true_and)) ∧ ((type_of% @q_wpLs_eq_2 ∧ type_of% @q_wpL_eq_1) ∧ (type_of% @lookT_next ∧ (type_of% @q_wpLs_eq_1 ∧ type_of% @q_exL_eq_1)))) ∧ (((type_of% @q_putK_eq_1 ∧ type_of% @q_AE_thenL_eq_1) ∧ (type_of% @q_awl_eq_2 ∧ type_of% @q_awl_eq_5)) ∧ ((type_of% @q_look_eq_2 ∧ type_of% @Nat.zero_add) ∧ (type_of% @and_self ∧ (type_of% @q_List_map_nil ∧ type_of% @q_List_map_cons))))) ∧ ((((type_of% @lookO_here ∧ type_of% @q_awl_eq_6) ∧ (type_of% @q_learn_eq_1 ∧ type_of% @q_condK_eq_1)) ∧ ((type_of% @q_vBin_eq_1 ∧ type_of% @q_resV_eq_1) ∧ (type_of% @q_binV_eq_1 ∧ (type_of% @q_binInt_eq_3 ∧ type_of% @q_exL_eq_11)))) ∧ (((type_of% @Nat.le_refl ∧ type_of% @q_mapT_eq_1) ∧ (type_of% @q_mapT_eq_2 ∧ (type_of% @q_mapO_eq_1 ∧ type_of% @q_List_length_nil))) ∧ ((type_of% @q_List_drop_zero ∧ type_of% @q_List_length_cons) ∧ (type_of% @q_resL_eq_1 ∧ (type_of% @q_V_nrm_eq_1 ∧ type_of% @q_K_nrm_eq_1)))))) ∧ (((((type_of% @q_awl_eq_10 ∧ type_of% @q_endK_eq_2) ∧ (type_of% @q_endL_eq_1 ∧ type_of% @q_endV_eq_1)) ∧ ((type_of% @q_resL_eq_2 ∧ type_of% @q_exL_eq_8) ∧ (type_of% @q_insO_eq_1 ∧ (type_of% @q_C_norm_eq_4 ∧ type_of% @q_C_norm_eq_5)))) ∧ (((type_of% @q_condB_eq_1 ∧ type_of% @q_mapO_eq_2) ∧ (type_of% @q_loadO_eq_1 ∧ (type_of% @q_isV_eq_1 ∧ type_of% @q_vLoad_eq_1))) ∧ ((type_of% @q_List_take_zero ∧ type_of% @q_awl_eq_1) ∧ (type_of% @q_condB_eq_2 ∧ (type_of% @q_K_nrm_eq_3 ∧ type_of% @q_O_nrm_eq_1))))) ∧ ((((type_of% @q_List_take_succ_cons ∧ type_of% @q_one_eq_1) ∧ (type_of% @q_Option_map_some ∧ type_of% @q_cutInt_eq_8)) ∧ ((type_of% @q_pureRow_eq_1 ∧ type_of% @q_pureRow_eq_2) ∧ (type_of% @q_resX_eq_1 ∧ (type_of% @q_V_owns_eq_1 ∧ type_of% @q_V_toNew_eq_1)))) ∧ (((type_of% @q_awl_eq_7 ∧ type_of% @q_exL_eq_28) ∧ (type_of% @Bool.and_true ∧ (type_of% @lookO_next ∧ type_of% @q_AE_thenL_eq_3))) ∧ ((type_of% @q_List_drop_succ_cons ∧ type_of% @norm_lst) ∧ (type_of% @q_freeB_eq_1 ∧ (type_of% @q_freeT_eq_1 ∧ type_of% @q_freeT_eq_2))))))) ∧ ((((((type_of% @q_freeO_eq_1 ∧ type_of% @Bool.or_true) ∧ (type_of% @not_false_eq_true ∧ type_of% @Bool.false_eq_true)) ∧ ((type_of% @q_splice_eq_1 ∧ type_of% @q_V_noRef_eq_1) ∧ (type_of% @q_List_nil_append ∧ (type_of% @q_V_nrm_eq_2 ∧ type_of% @q_K_owns_eq_2)))) ∧ (((type_of% @q_K_toNew_eq_1 ∧ type_of% @q_exL_eq_21) ∧ (type_of% @q_K_noRef_eq_1 ∧ type_of% @q_isVarO_eq_1)) ∧ ((type_of% @q_exL_eq_30 ∧ type_of% @q_vFaddr_eq_1) ∧ (type_of% @q_exL_eq_9 ∧ (type_of% @q_V_noRef_eq_2 ∧ type_of% @q_stVarK_eq_1))))) ∧ ((((type_of% @q_storeK_eq_1 ∧ type_of% @q_initT_eq_1) ∧ (type_of% @q_initT_eq_2 ∧ type_of% @q_C_normRow_eq_1)) ∧ ((type_of% @q_V_cells_eq_2 ∧ type_of% @q_Bool_not_true) ∧ (type_of% @q_ofRow_eq_2 ∧ (type_of% @Nat.add_zero ∧ type_of% @q_C_normRow_eq_2)))) ∧ (((type_of% @decide_false ∧ type_of% @r_vLen_lst) ∧ (type_of% @q_vPick_eq_1 ∧ (type_of% @q_freeO_eq_2 ∧ type_of% @Bool.false_or))) ∧ ((type_of% @q_exL_eq_3 ∧ type_of% @q_ofRow_eq_1) ∧ (type_of% @q_exL_eq_23 ∧ (type_of% @q_AOp_dst_eq_1 ∧ type_of% @q_AE_inBlockL_eq_1)))))) ∧ (((((type_of% @q_K_noRef_eq_3 ∧ type_of% @q_O_noRef_eq_1) ∧ (type_of% @decide_true ∧ type_of% @q_Bool_not_false)) ∧ ((type_of% @q_cutInt_eq_6 ∧ type_of% @q_exK_eq_1) ∧ (type_of% @q_AOp_dst_eq_10 ∧ (type_of% @q_AE_inBlockL_eq_3 ∧ type_of% @normRows_Ce)))) ∧ (((type_of% @q_guardP_eq_1 ∧ type_of% @q_exL_eq_4) ∧ (type_of% @q_cutInt_eq_1 ∧ (type_of% @q_vLoad_eq_2 ∧ type_of% @q_AOp_dst_eq_8))) ∧ ((type_of% @Bool.true_and ∧ type_of% @q_guardP_eq_2) ∧ (type_of% @q_resX_eq_2 ∧ (type_of% @q_resCell_eq_1 ∧ type_of% @r_vIaddr_lst))))) ∧ ((((type_of% @normRows_T ∧ type_of% @q_V_owns_eq_4) ∧ (type_of% @q_V_toNew_eq_2 ∧ type_of% @q_List_all_cons)) ∧ ((type_of% @q_List_all_nil ∧ type_of% @q_awl_eq_9) ∧ (type_of% @q_AE_thenL_eq_2 ∧ (type_of% @q_AE_inBlockL_eq_2 ∧ type_of% @q_O_nrm_eq_2)))) ∧ (((type_of% @Bool.and_eq_true ∧ type_of% @Int.toNat_natCast) ∧ (type_of% @Int.natCast_nonneg ∧ (type_of% @q_partV_eq_2 ∧ type_of% @q_putDL_eq_1))) ∧ ((type_of% @q_vBuild_eq_1 ∧ type_of% @q_rowV_eq_1) ∧ (type_of% @q_wpLQ_eq_1 ∧ (type_of% @q_partV_eq_1 ∧ type_of% @normRows_ints)))))))) := ⟨⟨⟨⟨⟨⟨⟨@q_insT_eq_1, @lookT_here⟩, ⟨@q_look_eq_1, @true_and⟩⟩, ⟨⟨@q_wpLs_eq_2, @q_wpL_eq_1⟩, ⟨@lookT_next, ⟨@q_wpLs_eq_1, @q_exL_eq_1⟩⟩⟩⟩, ⟨⟨⟨@q_putK_eq_1, @q_AE_thenL_eq_1⟩, ⟨@q_awl_eq_2, @q_awl_eq_5⟩⟩, ⟨⟨@q_look_eq_2, @Nat.zero_add⟩, ⟨@and_self, ⟨@q_List_map_nil, @q_List_map_cons⟩⟩⟩⟩⟩, ⟨⟨⟨⟨@lookO_here, @q_awl_eq_6⟩, ⟨@q_learn_eq_1, @q_condK_eq_1⟩⟩, ⟨⟨@q_vBin_eq_1, @q_resV_eq_1⟩, ⟨@q_binV_eq_1, ⟨@q_binInt_eq_3, @q_exL_eq_11⟩⟩⟩⟩, ⟨⟨⟨@Nat.le_refl, @q_mapT_eq_1⟩, ⟨@q_mapT_eq_2, ⟨@q_mapO_eq_1, @q_List_length_nil⟩⟩⟩, ⟨⟨@q_List_drop_zero, @q_List_length_cons⟩, ⟨@q_resL_eq_1, ⟨@q_V_nrm_eq_1, @q_K_nrm_eq_1⟩⟩⟩⟩⟩⟩, ⟨⟨⟨⟨⟨@q_awl_eq_10, @q_endK_eq_2⟩, ⟨@q_endL_eq_1, @q_endV_eq_1⟩⟩, ⟨⟨@q_resL_eq_2, @q_exL_eq_8⟩, ⟨@q_insO_eq_1, ⟨@q_C_norm_eq_4, @q_C_norm_eq_5⟩⟩⟩⟩, ⟨⟨⟨@q_condB_eq_1, @q_mapO_eq_2⟩, ⟨@q_loadO_eq_1, ⟨@q_isV_eq_1, @q_vLoad_eq_1⟩⟩⟩, ⟨⟨@q_List_take_zero, @q_awl_eq_1⟩, ⟨@q_condB_eq_2, ⟨@q_K_nrm_eq_3, @q_O_nrm_eq_1⟩⟩⟩⟩⟩, ⟨⟨⟨⟨@q_List_take_succ_cons, @q_one_eq_1⟩, ⟨@q_Option_map_some, @q_cutInt_eq_8⟩⟩, ⟨⟨@q_pureRow_eq_1, @q_pureRow_eq_2⟩, ⟨@q_resX_eq_1, ⟨@q_V_owns_eq_1, @q_V_toNew_eq_1⟩⟩⟩⟩, ⟨⟨⟨@q_awl_eq_7, @q_exL_eq_28⟩, ⟨@Bool.and_true, ⟨@lookO_next, @q_AE_thenL_eq_3⟩⟩⟩, ⟨⟨@q_List_drop_succ_cons, @norm_lst⟩, ⟨@q_freeB_eq_1, ⟨@q_freeT_eq_1, @q_freeT_eq_2⟩⟩⟩⟩⟩⟩⟩, ⟨⟨⟨⟨⟨⟨@q_freeO_eq_1, @Bool.or_true⟩, ⟨@not_false_eq_true, @Bool.false_eq_true⟩⟩, ⟨⟨@q_splice_eq_1, @q_V_noRef_eq_1⟩, ⟨@q_List_nil_append, ⟨@q_V_nrm_eq_2, @q_K_owns_eq_2⟩⟩⟩⟩, ⟨⟨⟨@q_K_toNew_eq_1, @q_exL_eq_21⟩, ⟨@q_K_noRef_eq_1, @q_isVarO_eq_1⟩⟩, ⟨⟨@q_exL_eq_30, @q_vFaddr_eq_1⟩, ⟨@q_exL_eq_9, ⟨@q_V_noRef_eq_2, @q_stVarK_eq_1⟩⟩⟩⟩⟩, ⟨⟨⟨⟨@q_storeK_eq_1, @q_initT_eq_1⟩, ⟨@q_initT_eq_2, @q_C_normRow_eq_1⟩⟩, ⟨⟨@q_V_cells_eq_2, @q_Bool_not_true⟩, ⟨@q_ofRow_eq_2, ⟨@Nat.add_zero, @q_C_normRow_eq_2⟩⟩⟩⟩, ⟨⟨⟨@decide_false, @r_vLen_lst⟩, ⟨@q_vPick_eq_1, ⟨@q_freeO_eq_2, @Bool.false_or⟩⟩⟩, ⟨⟨@q_exL_eq_3, @q_ofRow_eq_1⟩, ⟨@q_exL_eq_23, ⟨@q_AOp_dst_eq_1, @q_AE_inBlockL_eq_1⟩⟩⟩⟩⟩⟩, ⟨⟨⟨⟨⟨@q_K_noRef_eq_3, @q_O_noRef_eq_1⟩, ⟨@decide_true, @q_Bool_not_false⟩⟩, ⟨⟨@q_cutInt_eq_6, @q_exK_eq_1⟩, ⟨@q_AOp_dst_eq_10, ⟨@q_AE_inBlockL_eq_3, @normRows_Ce⟩⟩⟩⟩, ⟨⟨⟨@q_guardP_eq_1, @q_exL_eq_4⟩, ⟨@q_cutInt_eq_1, ⟨@q_vLoad_eq_2, @q_AOp_dst_eq_8⟩⟩⟩, ⟨⟨@Bool.true_and, @q_guardP_eq_2⟩, ⟨@q_resX_eq_2, ⟨@q_resCell_eq_1, @r_vIaddr_lst⟩⟩⟩⟩⟩, ⟨⟨⟨⟨@normRows_T, @q_V_owns_eq_4⟩, ⟨@q_V_toNew_eq_2, @q_List_all_cons⟩⟩, ⟨⟨@q_List_all_nil, @q_awl_eq_9⟩, ⟨@q_AE_thenL_eq_2, ⟨@q_AE_inBlockL_eq_2, @q_O_nrm_eq_2⟩⟩⟩⟩, ⟨⟨⟨@Bool.and_eq_true, @Int.toNat_natCast⟩, ⟨@Int.natCast_nonneg, ⟨@q_partV_eq_2, @q_putDL_eq_1⟩⟩⟩, ⟨⟨@q_vBuild_eq_1, @q_rowV_eq_1⟩, ⟨@q_wpLQ_eq_1, ⟨@q_partV_eq_1, @normRows_ints⟩⟩⟩⟩⟩⟩⟩⟩
end Go.Abs


namespace Go.Abs
section
variable {P : Program}
theorem shape_int {n : Nat} {t : TypeId} {r : List C} {k : IntKind} (hu : P.underlying t = some (.int k)) (h : Shape P n t r) : ∃ m : Int, r = [.int k m] ∧ (Lit.int k m).wf = true := by
  cases n with
  | zero => exact h.elim
  | succ n => simp only [Shape, hu] at h; exact h
theorem shape_bool {n : Nat} {t : TypeId} {r : List C} (hu : P.underlying t = some .bool) (h : Shape P n t r) : ∃ b : Bool, r = [.bool b] := by
  cases n with
  | zero => exact h.elim
  | succ n => simp only [Shape, hu] at h; exact h
theorem shape_slice {n : Nat} {t e : TypeId} {r : List C} (hu : P.underlying t = some (.slice e)) (h : Shape P n t r) : ∃ m rows, n = m + 1 ∧ r = [lstC (P.cellsOf e) rows] ∧ rows.length ≤ 9223372036854775807 ∧ ∀ x ∈ rows, Shape P m e x := by
  cases n with
  | zero => exact h.elim
  | succ n => simp only [Shape, hu] at h; obtain ⟨rows, h1, h2, h3⟩ := h; exact ⟨n, rows, rfl, h1, h2, h3⟩
theorem shape_struct {n : Nat} {t : TypeId} {fs : Array Field} {r : List C} (hu : P.underlying t = some (.struct fs)) (h : Shape P n t r) : ∃ m rs, n = m + 1 ∧ r = rs.flatten ∧ ShapeL (Shape P m) (fs.toList.map (·.type)) rs := by
  cases n with
  | zero => exact h.elim
  | succ n => simp only [Shape, hu] at h; obtain ⟨rs, h1, h2⟩ := h; exact ⟨n, rs, rfl, h1, h2⟩
theorem shapeL2 {S : TypeId → List C → Prop} {a b : TypeId} {rs : List (List C)} (h : ShapeL S [a, b] rs) : ∃ x y, rs = [x, y] ∧ S a x ∧ S b y := by
  match rs, h with
  | [x, y], h => exact ⟨x, y, rfl, h.1, h.2.1⟩
theorem shapeL3 {S : TypeId → List C → Prop} {a b c : TypeId} {rs : List (List C)} (h : ShapeL S [a, b, c] rs) : ∃ x y z, rs = [x, y, z] ∧ S a x ∧ S b y ∧ S c z := by
  match rs, h with
  | [x, y, z], h => exact ⟨x, y, z, rfl, h.1, h.2.1, h.2.2.1⟩
theorem rows_of {α : Type} {S : List C → Prop} (enc : α → List C) (hS : ∀ r, S r → ∃ a, r = enc a) : ∀ (rows : List (List C)), (∀ r ∈ rows, S r) → ∃ l : List α, rows = l.map enc
  | [], _ => ⟨[], rfl⟩
  | r :: rows, h => by
    obtain ⟨a, ha⟩ := hS r (h r (by simp))
    obtain ⟨l, hl⟩ := rows_of enc hS rows (fun x hx => h x (by simp [hx]))
    exact ⟨a :: l, by rw [ha, hl]; rfl⟩
structure TermTypes (P : Program) (tI tB tS tT tLT tR tLR tC tLC tO : TypeId) : Prop where
  i : P.underlying tI = some (.int .i64)
  b : P.underlying tB = some .bool
  s : P.underlying tS = some .string
  t : ∃ fs, P.underlying tT = some (.struct fs) ∧ fs.toList.map (·.type) = [tI, tI, tLT]
  lt : P.underlying tLT = some (.slice tT) ∧ P.cellsOf tT = 3
  r : ∃ fs, P.underlying tR = some (.struct fs) ∧ fs.toList.map (·.type) = [tI, tT]
  lr : P.underlying tLR = some (.slice tR) ∧ P.cellsOf tR = 4
  c : ∃ fs, P.underlying tC = some (.struct fs) ∧ fs.toList.map (·.type) = [tI, tI, tB]
  lc : P.underlying tLC = some (.slice tC) ∧ P.cellsOf tC = 3
  o : ∃ fs, P.underlying tO = some (.struct fs) ∧ fs.toList.map (·.type) = [tS, tB, tLC, tLR]
variable {tI tB tS tT tLT tR tLR tC tLC tO : TypeId}
theorem shape_term (h : TermTypes P tI tB tS tT tLT tR tLR tC tLC tO) : ∀ (n : Nat) (r : List C), Shape P n tT r → ∃ t : Term, r = encT t := by
  intro n
  induction n using Nat.strongRecOn with
  | ind n ih =>
    intro r hr
    obtain ⟨fs, hf, hl⟩ := h.t
    obtain ⟨m, rs, rfl, rfl, hs⟩ := shape_struct hf hr
    rw [hl] at hs
    obtain ⟨x, y, z, rfl, h1, h2, h3⟩ := shapeL3 hs
    obtain ⟨op, rfl, _⟩ := shape_int h.i h1
    obtain ⟨k, rfl, _⟩ := shape_int h.i h2
    obtain ⟨m', rows, rfl, rfl, _, h4⟩ := shape_slice h.lt.1 h3
    obtain ⟨l, rfl⟩ := rows_of encT (fun r hr => ih m' (by omega) r hr) rows h4
    exact ⟨.mk op k l, by rw [encT_eq, h.lt.2]; rfl⟩
theorem arg_term (h : TermTypes P tI tB tS tT tLT tR tLR tC tLC tO) {n : Nat} {r : List C} (hr : Shape P n tT r) : ∃ x : Term, argV P tT r = .agg (encT x) := by
  obtain ⟨x, rfl⟩ := shape_term h n r hr
  obtain ⟨fs, hf, _⟩ := h.t
  exact ⟨x, by simp only [argV, hf]⟩
end
end Go.Abs


namespace Go.Abs
section
variable {P : Program}
theorem shape_cell {n : Nat} {t tB tI : TypeId} {fs : Array Field} {r : List C} (ht : P.underlying t = some (.struct fs)) (hf : fs.toList.map (·.type) = [tB, tI]) (hb : P.underlying tB = some .bool) (hi : P.underlying tI = some (.int .i64)) (hr : Shape P n t r) : ∃ c : Cell, r = encCell c := by
  obtain ⟨m, rs, rfl, rfl, hs⟩ := shape_struct ht hr
  rw [hf] at hs
  obtain ⟨x, y, rfl, h1, h2⟩ := shapeL2 hs
  obtain ⟨b, rfl⟩ := shape_bool hb h1
  obtain ⟨k, rfl, _⟩ := shape_int hi h2
  exact ⟨⟨b, k⟩, rfl⟩
theorem arg_cells {n : Nat} {t e tB tI : TypeId} {fs : Array Field} {r : List C} (ht : P.underlying t = some (.slice e)) (he : P.underlying e = some (.struct fs)) (hf : fs.toList.map (·.type) = [tB, tI]) (hb : P.underlying tB = some .bool) (hi : P.underlying tI = some (.int .i64)) (hc : P.cellsOf e = 2)
    (hr : Shape P n t r) : ∃ l : List Cell, argV P t r = lst 2 (l.map encCell) := by
  obtain ⟨m, rows, rfl, rfl, _, h⟩ := shape_slice ht hr
  obtain ⟨l, rfl⟩ := rows_of encCell (fun r hr => shape_cell he hf hb hi hr) rows h
  exact ⟨l, by simp only [argV, ht, hc]⟩
def encB (b : Bool) : List C := [.bool b]
end
end Go.Abs


namespace Go.Abs
def cut (n : Int) : Int := min (max n (-1099511627776)) 1099511627776
theorem cut_eq (n : Int) : cut n = n ↔ -1099511627776 ≤ n ∧ n ≤ 1099511627776 := by unfold cut; omega
def varType (v : Int) : Option Int := if v < 0 ∨ v > 19 then none else if v < 7 then some 0 else some 1
def varTypeV (v : Int) : V := .tup [.int .i64 ((varType v).getD 0), .bool (varType v).isSome]
def leaf (t : Term) : Int × Int :=
  if t.args.length > 0 then (0, 2) else if t.op = 0 then (if cut t.n ≠ t.n then (0, 3) else (0, 0)) else if t.op = 1 then (if t.n < 0 ∨ t.n > 1 then (0, 3) else (1, 0))
  else match varType t.n with | none => (0, 10) | some k => (k, 0)
def pairV (p : Int × Int) : V := .tup [.int .i64 p.1, .int .i64 p.2]
def arity (op : Int) : Int := if op = 0 ∨ op = 1 ∨ op = 2 then 0 else if op = 3 then 1 else if op = 6 then 3 else 2
mutual
def nodes : Term → Int → Int → Int
  | .mk _ _ a, k, lv => if lv < 1 then -1 else nodesL a (k - 1) (lv - 1)
def nodesL : List Term → Int → Int → Int
  | [], k, _ => k
  | t :: l, k, lv => if k < 0 then k else nodesL l (nodes t k lv) lv
end
theorem nodes_eq (t : Term) (k lv : Int) : nodes t k lv = if lv < 1 then -1 else nodesL t.args (k - 1) (lv - 1) := by cases t; simp [nodes, Term.args]
mutual
theorem nodes_bd : ∀ (t : Term) (k lv : Int), 0 ≤ k → -1 ≤ nodes t k lv ∧ nodes t k lv ≤ k
  | .mk _ _ a, k, lv, h => by
    simp only [nodes]
    split
    · omega
    · have := nodesL_bd a (k - 1) (lv - 1) (by omega); omega
theorem nodesL_bd : ∀ (l : List Term) (k lv : Int), -1 ≤ k → -1 ≤ nodesL l k lv ∧ nodesL l k lv ≤ k
  | [], k, lv, h => by simp [nodesL, h]
  | t :: l, k, lv, h => by
    simp only [nodesL]
    split
    · omega
    · have h1 := nodes_bd t k lv (by omega)
      have := nodesL_bd l (nodes t k lv) lv h1.1
      omega
end
theorem nodesL_drop {l : List Term} {i : Nat} (h : i < l.length) (k lv : Int) : nodesL (l.drop i) k lv = if k < 0 then k else nodesL (l.drop (i + 1)) (nodes l[i] k lv) lv := by
  rw [List.drop_eq_getElem_cons h, nodesL]
theorem nodesL_neg (l : List Term) (k lv : Int) (h : k < 0) : nodesL l k lv = k := by
  cases l <;> simp [nodesL, h]
theorem norm_T (t : Term) : C.normRow [C.int .i64 t.op, C.int .i64 t.n, C.list (if (List.map encT t.args).isEmpty = true then 0 else 3) none (List.map encT t.args)] = encT t := by
  have h := encT_norm t
  rw [encT_eq] at h
  exact h.trans (encT_eq t).symm
def measL (m : Term → Int) : List Term → Int → Int
  | [], n => n
  | a :: l, n => if n + m a > 60 then n + m a else measL m l (n + m a)
def meas : Nat → Term → Int
  | 0, _ => 61
  | f + 1, t => measL (meas f) t.args 1
theorem measL_bd {m : Term → Int} {M : Int} (hm : ∀ a, 1 ≤ m a ∧ m a ≤ M) (hM : 1 ≤ M) : ∀ (l : List Term) (n : Int), 1 ≤ n → n ≤ 60 → 1 ≤ measL m l n ∧ measL m l n ≤ 60 + M
  | [], n, h1, h2 => by simp only [measL]; omega
  | a :: l, n, h1, h2 => by
    simp only [measL]
    have := hm a
    split
    · omega
    · exact measL_bd hm hM l _ (by omega) (by omega)
theorem meas_bd : ∀ (f : Nat) (t : Term), 1 ≤ meas f t ∧ meas f t ≤ 61 + 60 * f
  | 0, t => by simp [meas]
  | f + 1, t => by
    have := measL_bd (m := meas f) (M := 61 + 60 * f) (meas_bd f) (by omega) t.args 1 (by omega) (by omega)
    simp only [meas]
    omega
theorem measL_drop {m : Term → Int} {l : List Term} {i : Nat} (h : i < l.length) (n : Int) : measL m (l.drop i) n = if n + m l[i] > 60 then n + m l[i] else measL m (l.drop (i + 1)) (n + m l[i]) := by
  rw [List.drop_eq_getElem_cons h, measL]
def shapeArgs (op : Int) : List Int := if op = 3 then [1] else if op = 4 ∨ op = 5 then [1, 1] else if op = 6 then [1, -1, -1] else if op = 7 then [0, 0] else if op = 8 then [-1, -1] else [0, 0]
def shapeRes (op : Int) : Int := if op = 3 then 1 else if op = 4 ∨ op = 5 then 1 else if op = 6 then -1 else if op = 7 then 1 else if op = 8 then 1 else 0
def shapeV (op : Int) : V := .agk [.newl 3 1 none (ints (shapeArgs op)), .c (.int .i64 (shapeRes op))]
def fit : List Int → List Int → Int → Option Int
  | [], _, c => some c
  | _, [], c => some c
  | w :: ws, ty :: tys, c =>
    let c' := if w = -1 ∧ c = -1 then ty else c
    if ty ≠ (if w = -1 then c' else w) then none else fit ws tys c'
def node (t : Term) (tys : List Int) : Int × Int :=
  if t.op < 0 ∨ t.op > 13 then (0, 1) else if t.op = 0 ∨ t.op = 1 ∨ t.op = 2 then leaf t
  else if tys.length ≠ (shapeArgs t.op).length ∨ t.n ≠ 0 then (0, 2)
  else match fit (shapeArgs t.op) tys (-1) with
    | none => (0, 11)
    | some c => if shapeRes t.op = -1 then (c, 0) else (shapeRes t.op, 0)
mutual
def chk : Term → Int × Int
  | .mk o n a => if (chkA a []).1 ≠ 0 then (0, (chkA a []).1) else node (.mk o n a) (chkA a []).2
def chkA : List Term → List Int → Int × List Int
  | [], ty => (0, ty)
  | t :: l, ty => if (chk t).2 ≠ 0 then ((chk t).2, []) else chkA l (ty ++ [(chk t).1])
end
theorem chk_eq (t : Term) : chk t = if (chkA t.args []).1 ≠ 0 then (0, (chkA t.args []).1) else node t (chkA t.args []).2 := by cases t; simp only [chk, Term.args]; rfl
theorem chkA_drop {l : List Term} {i : Nat} (h : i < l.length) (ty : List Int) : chkA (l.drop i) ty = if (chk l[i]).2 ≠ 0 then ((chk l[i]).2, []) else chkA (l.drop (i + 1)) (ty ++ [(chk l[i]).1]) := by
  rw [List.drop_eq_getElem_cons h, chkA]
def Narrow : Nat → Term → Prop
  | 0, _ => False
  | f + 1, t => t.args.length ≤ 1000 ∧ ∀ a ∈ t.args, Narrow f a
theorem set_at {l : List Int} {n : Nat} {x : Int} {i : Nat} (hl : l.length = i) (h : i < n) :
    (ints l ++ List.replicate (n - i) [C.int .i64 0]).set i [C.int .i64 x] = ints (l ++ [x]) ++ List.replicate (n - (i + 1)) [C.int .i64 0] := by
  obtain ⟨m, hm⟩ : ∃ m, n - i = m + 1 := ⟨n - i - 1, by omega⟩
  have hm2 : n - (i + 1) = m := by omega
  rw [hm, hm2, List.replicate_succ, List.set_append_right _ _ (by simp [ints, hl])]
  simp [ints, hl]
theorem fit_drop {ws tys : List Int} {j : Nat} (h1 : j < ws.length) (h2 : j < tys.length) (c : Int) : fit (ws.drop j) (tys.drop j) c =
    if tys[j] ≠ (if ws[j] = -1 then (if ws[j] = -1 ∧ c = -1 then tys[j] else c) else ws[j]) then none else fit (ws.drop (j + 1)) (tys.drop (j + 1)) (if ws[j] = -1 ∧ c = -1 then tys[j] else c) := by
  rw [List.drop_eq_getElem_cons h1, List.drop_eq_getElem_cons h2, fit]
theorem fit_end (ws tys : List Int) (c : Int) (h : ws = []) : fit ws tys c = some c := by subst h; cases tys <;> rfl
theorem shape_small (op : Int) : (shapeArgs op).length ≤ 3 := by unfold shapeArgs; (repeat' split) <;> simp
end Go.Abs


namespace Go.Abs
theorem Term.ind {P : Term → Prop} (h : ∀ o n a, (∀ x ∈ a, P x) → P (.mk o n a)) : ∀ t, P t := by
  have key : ∀ k, ∀ t : Term, SizeOf.sizeOf t < k → P t := by
    intro k
    induction k with
    | zero => intro t ht; omega
    | succ k ih =>
      rintro ⟨o, n, a⟩ ht
      refine h o n a fun x hx => ih x ?_
      have := List.sizeOf_lt_of_mem hx
      simp at ht
      omega
  exact fun t => key _ t (Nat.lt_succ_self _)
def checkT (t : Term) : Int × Int := if nodes t 60 8 < 0 then (0, 6) else chk t
def few (t : Term) : Bool := decide (nodes t 100 20 ≥ 0)
theorem measL_ge {m : Term → Int} (hm : ∀ a, 1 ≤ m a) : ∀ (l : List Term) (n : Int), n ≤ measL m l n
  | [], n => by simp [measL]
  | b :: l, n => by
    have := hm b
    have := measL_ge hm l (n + m b)
    simp only [measL]; split <;> omega
theorem meas_nodes : ∀ (f : Nat),
    (∀ (t : Term) (c : Int), 0 ≤ c → c < 60 → (nodes t (60 - c) f < 0 ↔ c + meas f t > 60) ∧ (0 ≤ nodes t (60 - c) f → nodes t (60 - c) f = 60 - c - meas f t)) ∧
    (∀ (l : List Term) (c n : Int), 0 ≤ c → 1 ≤ n → c + n ≤ 60 → (nodesL l (60 - c - n) f < 0 ↔ c + measL (meas f) l n > 60) ∧ (0 ≤ nodesL l (60 - c - n) f → nodesL l (60 - c - n) f = 60 - c - measL (meas f) l n)) := by
  intro f
  induction f with
  | zero =>
    have h1 : ∀ (t : Term) (c : Int), 0 ≤ c → c < 60 → (nodes t (60 - c) ((0 : Nat) : Int) < 0 ↔ c + meas 0 t > 60) ∧ (0 ≤ nodes t (60 - c) ((0 : Nat) : Int) → nodes t (60 - c) ((0 : Nat) : Int) = 60 - c - meas 0 t) := by
      intro t c hc h60
      rw [nodes_eq, if_pos (by omega)]
      simp only [meas]
      omega
    refine ⟨h1, fun l => ?_⟩
    cases l with
    | nil =>
      intro c n hc hn h
      show (60 - c - n < 0 ↔ c + n > 60) ∧ (0 ≤ 60 - c - n → 60 - c - n = 60 - c - n)
      exact ⟨by omega, fun _ => rfl⟩
    | cons a l =>
      intro c n hc hn h
      have e1 : nodes a (60 - c - n) ((0 : Nat) : Int) = -1 := by rw [nodes_eq, if_pos (by omega)]
      have h0 : ¬ (60 - c - n < 0) := by omega
      have h6 : n + 61 > 60 := by omega
      simp only [nodesL, measL, meas, e1, if_neg h0, if_pos h6]
      rw [nodesL_neg _ _ _ (by omega)]
      omega
  | succ f ih =>
    have h1 : ∀ (t : Term) (c : Int), 0 ≤ c → c < 60 → (nodes t (60 - c) ((f + 1 : Nat) : Int) < 0 ↔ c + meas (f + 1) t > 60) ∧ (0 ≤ nodes t (60 - c) ((f + 1 : Nat) : Int) → nodes t (60 - c) ((f + 1 : Nat) : Int) = 60 - c - meas (f + 1) t) := by
      intro t c hc h60
      rw [nodes_eq, if_neg (by omega)]
      have := ih.2 t.args c 1 hc (by omega) (by omega)
      have e : ((f + 1 : Nat) : Int) - 1 = (f : Nat) := by omega
      rw [e]
      simp only [meas]
      exact this
    refine ⟨h1, fun l => ?_⟩
    induction l with
    | nil =>
      intro c n hc hn h
      show (60 - c - n < 0 ↔ c + n > 60) ∧ (0 ≤ 60 - c - n → 60 - c - n = 60 - c - n)
      exact ⟨by omega, fun _ => rfl⟩
    | cons a l ihl =>
      intro c n hc hn h
      simp only [nodesL, measL]
      rw [if_neg (by omega)]
      have hm := (meas_bd (f + 1) a).1
      by_cases hb : c + n = 60
      · have e0 : 60 - c - n = 0 := by omega
        have hn : nodes a (60 - c - n) ((f + 1 : Nat) : Int) < 0 := by
          have := (nodes_bd a (60 - c - n) ((f + 1 : Nat) : Int) (by omega))
          rw [nodes_eq, if_neg (by omega), nodesL_neg _ _ _ (by omega)]; omega
        rw [nodesL_neg _ _ _ hn]
        split
        · have := (nodes_bd a (60 - c - n) ((f + 1 : Nat) : Int) (by omega)).1; omega
        · have := measL_ge (m := meas (f + 1)) (fun a => (meas_bd (f + 1) a).1) l (n + meas (f + 1) a)
          have := (nodes_bd a (60 - c - n) ((f + 1 : Nat) : Int) (by omega)).1
          omega
      · obtain ⟨g1, g2⟩ := h1 a (c + n) (by omega) (by omega)
        have e1 : 60 - (c + n) = 60 - c - n := by omega
        rw [e1] at g1 g2
        by_cases hneg : nodes a (60 - c - n) ((f + 1 : Nat) : Int) < 0
        · rw [nodesL_neg _ _ _ hneg]
          have := g1.1 hneg
          split
          · omega
          · have := measL_ge (m := meas (f + 1)) (fun a => (meas_bd (f + 1) a).1) l (n + meas (f + 1) a)
            omega
        · have e2 := g2 (by omega)
          rw [e2]
          have hnb : ¬ (c + n + meas (f + 1) a > 60) := fun h => hneg (g1.2 h)
          rw [if_neg (by omega)]
          have := ihl c (n + meas (f + 1) a) hc (by omega) (by omega)
          have e3 : 60 - c - (n + meas (f + 1) a) = 60 - (c + n) - meas (f + 1) a := by omega
          rw [e3] at this
          have e4 : 60 - c - n - meas (f + 1) a = 60 - (c + n) - meas (f + 1) a := by omega
          rw [e4]; exact this
theorem meas_check (t : Term) : meas 8 t > 60 ↔ nodes t 60 8 < 0 := by
  have := ((meas_nodes 8).1 t 0 (by omega) (by omega)).1
  simp only [Int.sub_zero, Int.zero_add] at this
  exact this.symm
theorem nodesL_len : ∀ (l : List Term) (k lv : Int), 0 ≤ nodesL l k lv → (l.length : Int) ≤ k
  | [], k, lv, h => by simpa [nodesL] using h
  | t :: l, k, lv, h => by
    simp only [nodesL] at h
    split at h
    · omega
    · have h1 := nodesL_len l _ lv h
      have h2 : nodes t k lv ≤ k - 1 := by
        rw [nodes_eq]
        split
        · omega
        · have := (nodesL_bd t.args (k - 1) (lv - 1) (by omega)).2; omega
      simp only [List.length_cons]
      omega
theorem nodesL_mem : ∀ (l : List Term) (k lv : Int), 0 ≤ nodesL l k lv → ∀ a ∈ l, ∃ k', k' ≤ k ∧ 0 ≤ nodes a k' lv
  | [], _, _, _, a, h => by simp at h
  | t :: l, k, lv, h, a, ha => by
    simp only [nodesL] at h
    split at h
    · omega
    · rcases List.mem_cons.1 ha with rfl | ha
      · refine ⟨k, Int.le_refl _, ?_⟩
        by_cases hn : nodes a k lv < 0
        · rw [nodesL_neg _ _ _ hn] at h; omega
        · omega
      · obtain ⟨k', h1, h2⟩ := nodesL_mem l _ lv h a ha
        have := (nodes_bd t k lv (by omega)).2
        exact ⟨k', by omega, h2⟩
theorem narrow_of : ∀ (f : Nat) (t : Term) (k : Int), k ≤ 1000 → 0 ≤ nodes t k f → Narrow f t
  | 0, t, k, _, h => by rw [nodes_eq] at h; simp at h
  | f + 1, t, k, hk, h => by
    rw [nodes_eq, if_neg (by omega)] at h
    have e : ((f + 1 : Nat) : Int) - 1 = (f : Nat) := by omega
    rw [e] at h
    have := nodesL_len _ _ _ h
    refine ⟨by omega, fun a ha => ?_⟩
    obtain ⟨k', h1, h2⟩ := nodesL_mem _ _ _ h a ha
    exact narrow_of f a k' (by omega) h2
mutual
def used : Term → Int → Bool
  | .mk o n a, v => if o = 2 then decide (n = v) else usedL a v
def usedL : List Term → Int → Bool
  | [], _ => false
  | t :: l, v => if used t v = true then true else usedL l v
end
theorem used_eq (t : Term) (v : Int) : used t v = if t.op = 2 then decide (t.n = v) else usedL t.args v := by cases t; simp only [used, Term.op, Term.n, Term.args]; rfl
mutual
def coll : Term → List Int → List Int
  | .mk o n a, acc => collL a (if o = 2 then acc ++ [n] else acc)
def collL : List Term → List Int → List Int
  | [], acc => acc
  | t :: l, acc => collL l (coll t acc)
end
theorem coll_eq (t : Term) (acc : List Int) : coll t acc = collL t.args (if t.op = 2 then acc ++ [t.n] else acc) := by cases t; simp only [coll, Term.op, Term.n, Term.args]; rfl
theorem collL_drop {l : List Term} {i : Nat} (h : i < l.length) (acc : List Int) : collL (l.drop i) acc = collL (l.drop (i + 1)) (coll l[i] acc) := by
  rw [List.drop_eq_getElem_cons h, collL]
def upto (n : Nat) : List Int := (List.range n).map fun (i : Nat) => (i : Int)
def varsT (t : Term) : List Int := if (checkT t).2 ≠ 0 then [] else (upto 20).filter (used t)
def valueC (v : Int) (cells : List Cell) : Cell :=
  if v < 0 ∨ v ≥ cells.length then ⟨false, 0⟩
  else if (cells.getD v.toNat ⟨false, 0⟩).known = false then ⟨false, 0⟩
  else if (varType v).getD 0 = 0 then ⟨true, cut (cells.getD v.toNat ⟨false, 0⟩).n⟩
  else if (cells.getD v.toNat ⟨false, 0⟩).n ≠ 0 then ⟨true, 1⟩ else ⟨true, 0⟩
def yes (b : Bool) : Cell := if b then ⟨true, 1⟩ else ⟨true, 0⟩
def logic (a b : Cell) (alone : Int) : Cell :=
  if a.known = true ∧ a.n = alone ∨ b.known = true ∧ b.n = alone then ⟨true, alone⟩
  else if a.known = true ∧ b.known = true then ⟨true, 1 - alone⟩ else ⟨false, 0⟩
def times (a b : Int) : Int := cut (a * b)
def number (op a b : Int) : Cell :=
  if op = 7 then yes (decide (a < b)) else if op = 8 then yes (decide (a = b)) else if op = 9 then ⟨true, cut (a + b)⟩ else if op = 10 then ⟨true, cut (a - b)⟩
  else if op = 11 then ⟨true, times a b⟩ else if op = 12 then ⟨true, min a b⟩ else ⟨true, max a b⟩
def evalN (op : Int) (l : List Cell) : Cell :=
  if op = 3 then (if (l.getD 0 ⟨false, 0⟩).known = false then ⟨false, 0⟩ else ⟨true, 1 - (l.getD 0 ⟨false, 0⟩).n⟩)
  else if op = 4 then logic (l.getD 0 ⟨false, 0⟩) (l.getD 1 ⟨false, 0⟩) 0
  else if op = 5 then logic (l.getD 0 ⟨false, 0⟩) (l.getD 1 ⟨false, 0⟩) 1
  else if op = 6 then
    (if (l.getD 0 ⟨false, 0⟩).known = true then l.getD (2 - (l.getD 0 ⟨false, 0⟩).n).toNat ⟨false, 0⟩
     else if (l.getD 1 ⟨false, 0⟩).known = true ∧ (l.getD 2 ⟨false, 0⟩).known = true ∧ (l.getD 1 ⟨false, 0⟩).n = (l.getD 2 ⟨false, 0⟩).n then l.getD 1 ⟨false, 0⟩ else ⟨false, 0⟩)
  else if (l.getD 0 ⟨false, 0⟩).known = false ∨ (l.getD 1 ⟨false, 0⟩).known = false then ⟨false, 0⟩
  else number op (l.getD 0 ⟨false, 0⟩).n (l.getD 1 ⟨false, 0⟩).n
mutual
def eval : Term → List Cell → Cell
  | .mk o n a, cells => if o = 0 ∨ o = 1 then ⟨true, n⟩ else if o = 2 then valueC n cells else evalN o (evalL a cells)
def evalL : List Term → List Cell → List Cell
  | [], _ => []
  | t :: l, cells => eval t cells :: evalL l cells
end
theorem evalL_map (cells : List Cell) : ∀ l, evalL l cells = l.map fun t => eval t cells
  | [] => rfl
  | t :: l => by simp [evalL, evalL_map cells l]
theorem eval_eq (t : Term) (cells : List Cell) : eval t cells = if t.op = 0 ∨ t.op = 1 then ⟨true, t.n⟩ else if t.op = 2 then valueC t.n cells else evalN t.op (t.args.map fun a => eval a cells) := by
  cases t; simp only [eval, evalL_map, Term.op, Term.n, Term.args]; rfl
def evalT (t : Term) (cells : List Cell) : Cell := if (checkT t).2 ≠ 0 then ⟨false, 0⟩ else eval t cells
end Go.Abs

