/- A part of the proof; the last text states what is proved. -/
import Derived.Test.YtckobjgahmmkaaaP3
import Derived.Test.YtckobjgahmmkaaaProg
import Derived.IntWalk
set_option linter.unusedVariables false
set_option linter.unusedSimpArgs false
set_option maxRecDepth 100000
namespace Go.Abs
open Go.Proofs
def f20r1 : List AI := [⟨none, (.mov 2 (.v (.k (.c (.int .i64 0)))))⟩]
def f20b2 : AQ := (.seq (.region f20r1) .ret)
def f20r3 : List AI := [⟨none, (.bin 76 .add (.t 57) (.v (.k (.c (.int .i64 1)))))⟩, ⟨none, (.mov 57 (.t 76))⟩]
def f20r4 : List AI := [⟨none, (.mov 2 (.v (.k (.c (.int .i64 11)))))⟩]
def f20b5 : AQ := (.seq (.region f20r4) .ret)
def f20b6 : AQ := (.cond (.t 75) f20b5 .skip)
def f20r7 : List AI := [⟨none, (.mov 70 (.t 11))⟩, ⟨none, (.faddr 71 0 (.t 10))⟩, ⟨none, (.load 72 1 false (.t 71))⟩, ⟨none, (.iaddrA 73 1 22 (.t 8) (.t 72))⟩, ⟨none, (.load 74 1 false (.t 73))⟩, ⟨none, (.bin 75 .neq (.t 70) (.t 74))⟩]
def f20b8 : AQ := (.seq (.region f20r7) f20b6)
def f20r9 : List AI := [⟨none, (.mov 69 (.t 12))⟩, ⟨none, (.mov 2 (.t 69))⟩]
def f20b10 : AQ := (.seq (.region f20r9) .ret)
def f20b11 : AQ := (.cond (.t 68) f20b10 .skip)
def f20r12 : List AI := [⟨none, (.mov 67 (.t 12))⟩, ⟨none, (.bin 68 .neq (.t 67) (.v (.k (.c (.int .i64 0)))))⟩]
def f20b13 : AQ := (.seq (.region f20r12) f20b11)
def f20b14 : AQ := (.seq f20b13 f20b8)
def f20r15 : List AI := [⟨none, (.faddr 62 1 (.t 10))⟩, ⟨none, (.load 63 3 true (.t 62))⟩, ⟨none, (.call (some 64) 31 [(.t 63)])⟩, ⟨none, (.mov 61 (.t 64))⟩, ⟨none, (.extr 65 (.t 61) 0)⟩, ⟨none, (.extr 66 (.t 61) 1)⟩, ⟨none, (.mov 11 (.t 65))⟩, ⟨none, (.mov 12 (.t 66))⟩]
def f20b16 : AQ := (.seq (.region f20r15) f20b14)
def f20r17 : List AI := [⟨none, (.iaddr 59 4 (.t 55) (.t 57))⟩, ⟨none, (.load 60 4 true (.t 59))⟩, ⟨none, (.alloc 10 43 [(.int .i64 0), (.int .i64 0), (.int .i64 0), (.list 0 (some true) [])])⟩, ⟨none, (.store 4 (.t 10) (.t 60))⟩]
def f20b18 : AQ := (.seq (.region f20r17) f20b16)
def f20b19 : AQ := (.block 5 f20b18)
def f20b20 : AQ := (.seq f20b19 (.region f20r3))
def f20b21 : AQ := (.cond (.t 58) .skip (.exit 4))
def f20b22 : AQ := (.seq f20b21 f20b20)
def f20r23 : List AI := [⟨none, (.bin 58 .lss (.t 57) (.t 56))⟩]
def f20b24 : AQ := (.seq (.region f20r23) f20b22)
def f20l25 : AQ := .loop [8, 55, 56, 57] [8, 53, 54000, 54001, 54002] f20b24
def f20b26 : AQ := (.block 4 f20l25)
def f20r27 : List AI := [⟨none, (.faddr 54 3 (.t 1))⟩, ⟨none, (.load 55 1 false (.t 54))⟩, ⟨none, (.len 56 (.t 55))⟩, ⟨none, (.mov 57 (.v (.k (.c (.int .i64 0)))))⟩]
def f20b28 : AQ := (.seq (.region f20r27) f20b26)
def f20b29 : AQ := (.seq f20b28 f20b2)
def f20r30 : List AI := [⟨none, (.call (some 53) 44 [])⟩, ⟨none, (.alloc 8 65 [(.int .i64 0), (.int .i64 0), (.int .i64 0), (.int .i64 0), (.int .i64 0), (.int .i64 0), (.int .i64 0), (.int .i64 0), (.int .i64 0), (.int .i64 0), (.int .i64 0), (.int .i64 0), (.int .i64 0), (.int .i64 0), (.int .i64 0), (.int .i64 0), (.int .i64 0), (.int .i64 0), (.int .i64 0), (.int .i64 0), (.int .i64 0), (.int .i64 0)])⟩, ⟨none, (.store 22 (.t 8) (.t 53))⟩]
def f20b31 : AQ := (.seq (.region f20r30) f20b29)
def f20r32 : List AI := [⟨none, (.bin 52 .add (.t 41) (.v (.k (.c (.int .i64 1)))))⟩, ⟨none, (.mov 41 (.t 52))⟩]
def f20r33 : List AI := [⟨none, (.faddr 50 0 (.t 7))⟩, ⟨none, (.load 51 1 false (.t 50))⟩, ⟨none, (.mov 3 (.t 51))⟩]
def f20r34 : List AI := [⟨none, (.mov 2 (.v (.k (.c (.int .i64 1)))))⟩]
def f20b35 : AQ := (.seq (.region f20r34) .ret)
def f20b36 : AQ := (.cond (.t 49) f20b35 .skip)
def f20r37 : List AI := [⟨none, (.mov 45 (.t 3))⟩, ⟨none, (.faddr 46 0 (.t 7))⟩, ⟨none, (.load 47 1 false (.t 46))⟩, ⟨none, (.call (some 48) 45 [(.t 45), (.t 47)])⟩, ⟨none, (.un 49 .not (.t 48))⟩]
def f20b38 : AQ := (.seq (.region f20r37) f20b36)
def f20b39 : AQ := (.seq f20b38 (.region f20r33))
def f20r40 : List AI := [⟨none, (.iaddr 43 4 (.t 39) (.t 41))⟩, ⟨none, (.load 44 4 true (.t 43))⟩, ⟨none, (.alloc 7 43 [(.int .i64 0), (.int .i64 0), (.int .i64 0), (.list 0 (some true) [])])⟩, ⟨none, (.store 4 (.t 7) (.t 44))⟩]
def f20b41 : AQ := (.seq (.region f20r40) f20b39)
def f20b42 : AQ := (.block 3 f20b41)
def f20b43 : AQ := (.seq f20b42 (.region f20r32))
def f20b44 : AQ := (.cond (.t 42) .skip (.exit 2))
def f20b45 : AQ := (.seq f20b44 f20b43)
def f20r46 : List AI := [⟨none, (.bin 42 .lss (.t 41) (.t 40))⟩]
def f20b47 : AQ := (.seq (.region f20r46) f20b45)
def f20l48 : AQ := .loop [1, 3, 39, 40, 41] [1] f20b47
def f20b49 : AQ := (.block 2 f20l48)
def f20r50 : List AI := [⟨none, (.faddr 38 3 (.t 1))⟩, ⟨none, (.load 39 1 false (.t 38))⟩, ⟨none, (.len 40 (.t 39))⟩, ⟨none, (.mov 41 (.v (.k (.c (.int .i64 0)))))⟩]
def f20b51 : AQ := (.seq (.region f20r50) f20b49)
def f20b52 : AQ := (.seq f20b51 f20b31)
def f20r53 : List AI := [⟨none, (.mov 3 (.v (.k (.c (.int .i64 (-1))))))⟩]
def f20b54 : AQ := (.seq (.region f20r53) f20b52)
def f20r55 : List AI := [⟨none, (.bin 37 .add (.t 16) (.v (.k (.c (.int .i64 1)))))⟩, ⟨none, (.mov 16 (.t 37))⟩]
def f20r56 : List AI := [⟨none, (.faddr 35 0 (.t 5))⟩, ⟨none, (.load 36 1 false (.t 35))⟩, ⟨none, (.mov 3 (.t 36))⟩]
def f20r57 : List AI := [⟨none, (.mov 2 (.v (.k (.c (.int .i64 1)))))⟩]
def f20b58 : AQ := (.seq (.region f20r57) .ret)
def f20b59 : AQ := (.cond (.t 34) f20b58 .skip)
def f20r60 : List AI := [⟨none, (.mov 20 (.t 3))⟩, ⟨none, (.faddr 21 0 (.t 5))⟩, ⟨none, (.load 22 1 false (.t 21))⟩, ⟨none, (.call (some 23) 45 [(.t 20), (.t 22)])⟩, ⟨none, (.un 24 .not (.t 23))⟩, ⟨none, (.mov 25 (.t 24))⟩, ⟨(some (25, false)), (.faddr 26 1 (.t 5))⟩, ⟨(some (25, false)), (.load 27 1 false (.t 26))⟩, ⟨(some (25, false)), (.bin 28 .lss (.t 27) (.v (.k (.c (.int .i64 0)))))⟩, ⟨none, (.pick 29 (.t 25) (.v (.k (.c (.bool true)))) (.t 28))⟩, ⟨none, (.mov 30 (.t 29))⟩, ⟨(some (30, false)), (.faddr 31 1 (.t 5))⟩, ⟨(some (30, false)), (.load 32 1 false (.t 31))⟩, ⟨(some (30, false)), (.bin 33 .geq (.t 32) (.v (.k (.c (.int .i64 5)))))⟩, ⟨none, (.pick 34 (.t 30) (.v (.k (.c (.bool true)))) (.t 33))⟩]
def f20b61 : AQ := (.seq (.region f20r60) f20b59)
def f20b62 : AQ := (.seq f20b61 (.region f20r56))
def f20r63 : List AI := [⟨none, (.iaddr 18 3 (.t 14) (.t 16))⟩, ⟨none, (.load 19 3 true (.t 18))⟩, ⟨none, (.alloc 5 45 [(.int .i64 0), (.int .i64 0), (.bool false)])⟩, ⟨none, (.store 3 (.t 5) (.t 19))⟩]
def f20b64 : AQ := (.seq (.region f20r63) f20b62)
def f20b65 : AQ := (.block 1 f20b64)
def f20b66 : AQ := (.seq f20b65 (.region f20r55))
def f20b67 : AQ := (.cond (.t 17) .skip (.exit 0))
def f20b68 : AQ := (.seq f20b67 f20b66)
def f20r69 : List AI := [⟨none, (.bin 17 .lss (.t 16) (.t 15))⟩]
def f20b70 : AQ := (.seq (.region f20r69) f20b68)
def f20l71 : AQ := .loop [1, 3, 14, 15, 16] [1] f20b70
def f20b72 : AQ := (.block 0 f20l71)
def f20r73 : List AI := [⟨none, (.faddr 13 2 (.t 1))⟩, ⟨none, (.load 14 1 false (.t 13))⟩, ⟨none, (.len 15 (.t 14))⟩, ⟨none, (.mov 16 (.v (.k (.c (.int .i64 0)))))⟩]
def f20b74 : AQ := (.seq (.region f20r73) f20b72)
def f20b75 : AQ := (.seq f20b74 f20b54)
def f20r76 : List AI := [⟨none, (.mov 3 (.v (.k (.c (.int .i64 (-1))))))⟩]
def f20b77 : AQ := (.seq (.region f20r76) f20b75)
def f20r78 : List AI := [⟨none, (.box 1 25 (.t 0))⟩, ⟨none, (.mov 2 (.v (.k (.c (.int .i64 0)))))⟩]
def f20b79 : AQ := (.seq (.region f20r78) f20b77)
def f20 : AQ := f20b79
def f22r1 : List AI := [⟨none, (.mov 4 (.v (.k (.c (.bool true)))))⟩]
theorem uf22r1 : type_of% @f22r1.eq_1 := id @f22r1.eq_1
def f22b2 : AQ := (.seq (.region f22r1) .ret)
theorem uf22b2 (P ts os Q) : awl P f22b2 Q ts os = awl P (.seq (.region f22r1) .ret) Q ts os := id rfl
def f22r3 : List AI := [⟨none, (.mov 15 (.t 5))⟩, ⟨none, (.bin 16 .add (.t 15) (.v (.k (.c (.int .i64 1)))))⟩, ⟨none, (.mov 5 (.t 16))⟩]
theorem uf22r3 : type_of% @f22r3.eq_1 := id @f22r3.eq_1
def f22r4 : List AI := [⟨none, (.mov 4 (.v (.k (.c (.bool false)))))⟩]
theorem uf22r4 : type_of% @f22r4.eq_1 := id @f22r4.eq_1
def f22b5 : AQ := (.seq (.region f22r4) .ret)
theorem uf22b5 (P ts os Q) : awl P f22b5 Q ts os = awl P (.seq (.region f22r4) .ret) Q ts os := id rfl
def f22b6 : AQ := (.cond (.t 25) f22b5 .skip)
theorem uf22b6 (P ts os Q) : awl P f22b6 Q ts os = awl P (.cond (.t 25) f22b5 .skip) Q ts os := id rfl
def f22r7 : List AI := [⟨none, (.mov 17 (.t 0))⟩, ⟨none, (.mov 18 (.t 5))⟩, ⟨none, (.iaddr 19 1 (.t 17) (.t 18))⟩, ⟨none, (.load 20 1 false (.t 19))⟩, ⟨none, (.mov 21 (.t 1))⟩, ⟨none, (.mov 22 (.t 5))⟩, ⟨none, (.iaddr 23 1 (.t 21) (.t 22))⟩, ⟨none, (.load 24 1 false (.t 23))⟩, ⟨none, (.bin 25 .neq (.t 20) (.t 24))⟩]
theorem uf22r7 : type_of% @f22r7.eq_1 := id @f22r7.eq_1
def f22b8 : AQ := (.seq (.draw f22r7 [[], [], [0, 1], [2], [], [], [4, 5], [6], [3, 7]]) f22b6)
theorem uf22b8 (P ts os Q) : awl P f22b8 Q ts os = awl P (.seq (.draw f22r7 [[], [], [0, 1], [2], [], [], [4, 5], [6], [3, 7]]) f22b6) Q ts os := id rfl
def f22b9 : AQ := (.block 1 f22b8)
theorem uf22b9 (P ts os Q) : awl P f22b9 Q ts os = awl P (.block 1 f22b8) Q ts os := id rfl
def f22b10 : AQ := (.seq f22b9 (.region f22r3))
theorem uf22b10 (P ts os Q) : awl P f22b10 Q ts os = awl P (.seq f22b9 (.region f22r3)) Q ts os := id rfl
def f22b11 : AQ := (.cond (.t 14) .skip (.exit 0))
theorem uf22b11 (P ts os Q) : awl P f22b11 Q ts os = awl P (.cond (.t 14) .skip (.exit 0)) Q ts os := id rfl
def f22r12 : List AI := [⟨none, (.mov 11 (.t 5))⟩, ⟨none, (.mov 12 (.t 0))⟩, ⟨none, (.len 13 (.t 12))⟩, ⟨none, (.bin 14 .lss (.t 11) (.t 13))⟩]
theorem uf22r12 : type_of% @f22r12.eq_1 := id @f22r12.eq_1
def f22b13 : AQ := (.seq (.region f22r12) f22b11)
theorem uf22b13 (P ts os Q) : awl P f22b13 Q ts os = awl P (.seq (.region f22r12) f22b11) Q ts os := id rfl
def f22b14 : AQ := (.seq f22b13 f22b10)
theorem uf22b14 (P ts os Q) : awl P f22b14 Q ts os = awl P (.seq f22b13 f22b10) Q ts os := id rfl
def f22l15 : AQ := .loop [0, 1, 5] [] f22b14
theorem uf22l15 (P ts os Q) : awl P f22l15 Q ts os = awl P (.loop [0, 1, 5] [] f22b14) Q ts os := id rfl
def f22b16 : AQ := (.block 0 f22l15)
theorem uf22b16 (P ts os Q) : awl P f22b16 Q ts os = awl P (.block 0 f22l15) Q ts os := id rfl
def f22r17 : List AI := [⟨none, (.mov 5 (.v (.k (.c (.int .i64 0)))))⟩]
theorem uf22r17 : type_of% @f22r17.eq_1 := id @f22r17.eq_1
def f22b18 : AQ := (.seq (.region f22r17) f22b16)
theorem uf22b18 (P ts os Q) : awl P f22b18 Q ts os = awl P (.seq (.region f22r17) f22b16) Q ts os := id rfl
def f22b19 : AQ := (.seq f22b18 f22b2)
theorem uf22b19 (P ts os Q) : awl P f22b19 Q ts os = awl P (.seq f22b18 f22b2) Q ts os := id rfl
def f22r20 : List AI := [⟨none, (.mov 4 (.v (.k (.c (.bool false)))))⟩]
theorem uf22r20 : type_of% @f22r20.eq_1 := id @f22r20.eq_1
def f22b21 : AQ := (.seq (.region f22r20) .ret)
theorem uf22b21 (P ts os Q) : awl P f22b21 Q ts os = awl P (.seq (.region f22r20) .ret) Q ts os := id rfl
def f22b22 : AQ := (.cond (.t 10) f22b21 .skip)
theorem uf22b22 (P ts os Q) : awl P f22b22 Q ts os = awl P (.cond (.t 10) f22b21 .skip) Q ts os := id rfl
def f22r23 : List AI := [⟨none, (.mov 6 (.t 0))⟩, ⟨none, (.len 7 (.t 6))⟩, ⟨none, (.mov 8 (.t 1))⟩, ⟨none, (.len 9 (.t 8))⟩, ⟨none, (.bin 10 .neq (.t 7) (.t 9))⟩]
theorem uf22r23 : type_of% @f22r23.eq_1 := id @f22r23.eq_1
def f22b24 : AQ := (.seq (.region f22r23) f22b22)
theorem uf22b24 (P ts os Q) : awl P f22b24 Q ts os = awl P (.seq (.region f22r23) f22b22) Q ts os := id rfl
def f22b25 : AQ := (.seq f22b24 f22b19)
theorem uf22b25 (P ts os Q) : awl P f22b25 Q ts os = awl P (.seq f22b24 f22b19) Q ts os := id rfl
def f22r26 : List AI := [⟨none, (.mov 4 (.v (.k (.c (.bool false)))))⟩]
theorem uf22r26 : type_of% @f22r26.eq_1 := id @f22r26.eq_1
def f22b27 : AQ := (.seq (.region f22r26) f22b25)
theorem uf22b27 (P ts os Q) : awl P f22b27 Q ts os = awl P (.seq (.region f22r26) f22b25) Q ts os := id rfl
def f22 : AQ := f22b27
theorem uf22 (P ts os Q) : awl P f22 Q ts os = awl P f22b27 Q ts os := id rfl
theorem hf22 : cFunc Try.prog 22 = some ⟨26, f22.erase, [(RX.t 4)]⟩ := by kernel_rfl
theorem okf22 : f22.ok = true := by kernel_rfl
def f29r1 : List AI := [⟨none, (.load 70 3 true (.t 1))⟩, ⟨none, (.call (some 71) 57 [(.v (.k (.c (.int .i64 15)))), (.v (.k (.c (.int .i64 1))))])⟩, ⟨none, (.call (some 72) 39 [(.t 70), (.t 71)])⟩, ⟨none, (.bslice 73 3 1 [(.int .i64 0)] 1 [(0, (.v (.k (.c (.int .i64 18)))))])⟩, ⟨none, (.call (some 74) 22 [(.t 72), (.t 73)])⟩, ⟨none, (.mov 75 (.t 74))⟩, ⟨(some (75, true)), (.load 76 3 true (.t 3))⟩, ⟨(some (75, true)), (.call (some 77) 57 [(.v (.k (.c (.int .i64 17)))), (.v (.k (.c (.int .i64 1))))])⟩, ⟨(some (75, true)), (.call (some 78) 39 [(.t 76), (.t 77)])⟩, ⟨(some (75, true)), (.bslice 79 3 1 [(.int .i64 0)] 1 [(0, (.v (.k (.c (.int .i64 0)))))])⟩, ⟨(some (75, true)), (.call (some 80) 22 [(.t 78), (.t 79)])⟩, ⟨none, (.pick 81 (.t 75) (.t 80) (.v (.k (.c (.bool false)))))⟩, ⟨none, (.mov 82 (.t 81))⟩, ⟨(some (82, true)), (.load 83 3 true (.t 4))⟩, ⟨(some (82, true)), (.call (some 84) 57 [(.v (.k (.c (.int .i64 0)))), (.v (.k (.c (.int .i64 1099511627776))))])⟩, ⟨(some (82, true)), (.call (some 85) 37 [(.t 83), (.t 84)])⟩, ⟨(some (82, true)), (.build 86 [(.bool false), (.int .i64 0)] [(0, (1, (.v (.k (.c (.bool true)))))), (1, (1, (.v (.k (.c (.int .i64 1099511627776))))))])⟩, ⟨(some (82, true)), (.eqAgg 87 false [.bool, .int] (.t 85) (.t 86))⟩, ⟨none, (.pick 88 (.t 82) (.t 87) (.v (.k (.c (.bool false)))))⟩, ⟨none, (.mov 89 (.t 88))⟩, ⟨(some (89, true)), (.load 90 3 true (.t 3))⟩, ⟨(some (89, true)), (.call (some 91) 35 [(.t 90)])⟩, ⟨(some (89, true)), (.bslice 92 3 1 [(.int .i64 0)] 2 [(0, (.v (.k (.c (.int .i64 0))))), (1, (.v (.k (.c (.int .i64 17)))))])⟩, ⟨(some (89, true)), (.call (some 93) 22 [(.t 91), (.t 92)])⟩, ⟨none, (.pick 94 (.t 89) (.t 93) (.v (.k (.c (.bool false)))))⟩, ⟨none, (.mov 0 (.t 94))⟩]
theorem uf29r1 : type_of% @f29r1.eq_1 := id @f29r1.eq_1
def f29b2 : AQ := (.seq (.draw f29r1 [[], [], [0, 1, 1], [], [2, 3, 2], [4, 4], [5], [5, 5], [6, 7, 7, 5], [5], [8, 9, 8, 5], [5, 10], [11, 10], [12], [12, 12], [13, 14, 14, 12], [12], [15, 16, 12], [12, 17], [18, 15], [19], [20, 19, 19], [19], [21, 22, 21, 19], [19, 23], [24, 23, 0, 1, 2, 3, 4, 5, 6, 7, 8, 9, 10, 11, 12, 13, 14, 15, 16, 17, 18, 19, 20, 21, 22, 23, 24]]) .ret)
theorem uf29b2 (P ts os Q) : awl P f29b2 Q ts os = awl P (.seq (.draw f29r1 [[], [], [0, 1, 1], [], [2, 3, 2], [4, 4], [5], [5, 5], [6, 7, 7, 5], [5], [8, 9, 8, 5], [5, 10], [11, 10], [12], [12, 12], [13, 14, 14, 12], [12], [15, 16, 12], [12, 17], [18, 15], [19], [20, 19, 19], [19], [21, 22, 21, 19], [19, 23], [24, 23, 0, 1, 2, 3, 4, 5, 6, 7, 8, 9, 10, 11, 12, 13, 14, 15, 16, 17, 18, 19, 20, 21, 22, 23, 24]]) .ret) Q ts os := id rfl
def f29r3 : List AI := [⟨none, (.mov 0 (.v (.k (.c (.bool false)))))⟩]
def f29b4 : AQ := (.seq (.region f29r3) .ret)
def f29b5 : AQ := (.cond (.t 69) f29b4 .skip)
theorem uf29b5 (P ts os Q) : awl P f29b5 Q ts os = awl P (.cond (.t 69) f29b4 .skip) Q ts os := id rfl
def f29r6 : List AI := [⟨none, (.load 60 3 true (.t 2))⟩, ⟨none, (.call (some 61) 37 [(.t 60), (.v (.k (.c (.list 0 (some true) []))))])⟩, ⟨none, (.build 62 [(.bool false), (.int .i64 0)] [(0, (1, (.v (.k (.c (.bool true)))))), (1, (1, (.v (.k (.c (.int .i64 3))))))])⟩, ⟨none, (.eqAgg 63 true [.bool, .int] (.t 61) (.t 62))⟩, ⟨none, (.mov 64 (.t 63))⟩, ⟨(some (64, false)), (.load 65 3 true (.t 3))⟩, ⟨(some (64, false)), (.call (some 66) 57 [(.v (.k (.c (.int .i64 17)))), (.v (.k (.c (.int .i64 1))))])⟩, ⟨(some (64, false)), (.call (some 67) 37 [(.t 65), (.t 66)])⟩, ⟨(some (64, false)), (.field 68 0 1 false (.t 67))⟩, ⟨none, (.pick 69 (.t 64) (.v (.k (.c (.bool true)))) (.t 68))⟩]
theorem uf29r6 : type_of% @f29r6.eq_1 := id @f29r6.eq_1
def f29b7 : AQ := (.seq (.draw f29r6 [[], [0], [], [1, 2], [3, 1], [4], [4, 4], [5, 6, 6, 4], [7, 4], [4, 8]]) f29b5)
theorem uf29b7 (P ts os Q) : awl P f29b7 Q ts os = awl P (.seq (.draw f29r6 [[], [0], [], [1, 2], [3, 1], [4], [4, 4], [5, 6, 6, 4], [7, 4], [4, 8]]) f29b5) Q ts os := id rfl
def f29b8 : AQ := (.seq f29b7 f29b2)
theorem uf29b8 (P ts os Q) : awl P f29b8 Q ts os = awl P (.seq f29b7 f29b2) Q ts os := id rfl
def f29r9 : List AI := [⟨none, (.mov 0 (.v (.k (.c (.bool false)))))⟩]
def f29b10 : AQ := (.seq (.region f29r9) .ret)
def f29b11 : AQ := (.cond (.t 59) f29b10 .skip)
theorem uf29b11 (P ts os Q) : awl P f29b11 Q ts os = awl P (.cond (.t 59) f29b10 .skip) Q ts os := id rfl
def f29r12 : List AI := [⟨none, (.load 49 3 true (.t 1))⟩, ⟨none, (.call (some 50) 57 [(.v (.k (.c (.int .i64 15)))), (.v (.k (.c (.int .i64 0))))])⟩, ⟨none, (.call (some 51) 37 [(.t 49), (.t 50)])⟩, ⟨none, (.build 52 [(.bool false), (.int .i64 0)] [(0, (1, (.v (.k (.c (.bool true))))))])⟩, ⟨none, (.eqAgg 53 true [.bool, .int] (.t 51) (.t 52))⟩, ⟨none, (.mov 54 (.t 53))⟩, ⟨(some (54, false)), (.load 55 3 true (.t 1))⟩, ⟨(some (54, false)), (.call (some 56) 57 [(.v (.k (.c (.int .i64 15)))), (.v (.k (.c (.int .i64 1))))])⟩, ⟨(some (54, false)), (.call (some 57) 37 [(.t 55), (.t 56)])⟩, ⟨(some (54, false)), (.field 58 0 1 false (.t 57))⟩, ⟨none, (.pick 59 (.t 54) (.v (.k (.c (.bool true)))) (.t 58))⟩]
theorem uf29r12 : type_of% @f29r12.eq_1 := id @f29r12.eq_1
def f29b13 : AQ := (.seq (.draw f29r12 [[], [], [0, 1, 1], [], [2, 3], [4, 2], [5], [5, 5], [6, 7, 7, 5], [8, 5], [5, 9]]) f29b11)
theorem uf29b13 (P ts os Q) : awl P f29b13 Q ts os = awl P (.seq (.draw f29r12 [[], [], [0, 1, 1], [], [2, 3], [4, 2], [5], [5, 5], [6, 7, 7, 5], [8, 5], [5, 9]]) f29b11) Q ts os := id rfl
def f29b14 : AQ := (.seq f29b13 f29b8)
theorem uf29b14 (P ts os Q) : awl P f29b14 Q ts os = awl P (.seq f29b13 f29b8) Q ts os := id rfl
def f29r15 : List AI := [⟨none, (.mov 0 (.v (.k (.c (.bool false)))))⟩]
def f29b16 : AQ := (.seq (.region f29r15) .ret)
def f29b17 : AQ := (.cond (.t 48) f29b16 .skip)
theorem uf29b17 (P ts os Q) : awl P f29b17 Q ts os = awl P (.cond (.t 48) f29b16 .skip) Q ts os := id rfl
def f29r18 : List AI := [⟨none, (.mov 39 (.t 5))⟩, ⟨none, (.bin 40 .neq (.t 39) (.v (.k (.c (.int .i64 1)))))⟩, ⟨none, (.mov 41 (.t 40))⟩, ⟨(some (41, false)), (.mov 42 (.t 6))⟩, ⟨(some (41, false)), (.bin 43 .neq (.t 42) (.v (.k (.c (.int .i64 0)))))⟩, ⟨none, (.pick 44 (.t 41) (.v (.k (.c (.bool true)))) (.t 43))⟩, ⟨none, (.mov 45 (.t 44))⟩, ⟨(some (45, false)), (.mov 46 (.t 8))⟩, ⟨(some (45, false)), (.bin 47 .neq (.t 46) (.v (.k (.c (.int .i64 11)))))⟩, ⟨none, (.pick 48 (.t 45) (.v (.k (.c (.bool true)))) (.t 47))⟩]
theorem uf29r18 : type_of% @f29r18.eq_1 := id @f29r18.eq_1
def f29b19 : AQ := (.seq (.region f29r18) f29b17)
theorem uf29b19 (P ts os Q) : awl P f29b19 Q ts os = awl P (.seq (.region f29r18) f29b17) Q ts os := id rfl
def f29b20 : AQ := (.seq f29b19 f29b14)
theorem uf29b20 (P ts os Q) : awl P f29b20 Q ts os = awl P (.seq f29b19 f29b14) Q ts os := id rfl
def f29r21 : List AI := [⟨none, (.call (some 33) 56 [(.v (.k (.c (.int .i64 1))))])⟩, ⟨none, (.bslice 34 41 3 [(.int .i64 0), (.int .i64 0), (.list 0 (some true) [])] 1 [(0, (.t 33))])⟩, ⟨none, (.call (some 35) 54 [(.v (.k (.c (.int .i64 3)))), (.t 34)])⟩, ⟨none, (.call (some 36) 31 [(.t 35)])⟩, ⟨none, (.mov 32 (.t 36))⟩, ⟨none, (.extr 37 (.t 32) 0)⟩, ⟨none, (.extr 38 (.t 32) 1)⟩, ⟨none, (.mov 7 (.t 37))⟩, ⟨none, (.mov 8 (.t 38))⟩]
theorem uf29r21 : type_of% @f29r21.eq_1 := id @f29r21.eq_1
def f29b22 : AQ := (.seq (.region f29r21) f29b20)
theorem uf29b22 (P ts os Q) : awl P f29b22 Q ts os = awl P (.seq (.region f29r21) f29b20) Q ts os := id rfl
def f29r23 : List AI := [⟨none, (.load 28 3 true (.t 1))⟩, ⟨none, (.call (some 29) 31 [(.t 28)])⟩, ⟨none, (.mov 27 (.t 29))⟩, ⟨none, (.extr 30 (.t 27) 0)⟩, ⟨none, (.extr 31 (.t 27) 1)⟩, ⟨none, (.mov 5 (.t 30))⟩, ⟨none, (.mov 6 (.t 31))⟩]
theorem uf29r23 : type_of% @f29r23.eq_1 := id @f29r23.eq_1
def f29b24 : AQ := (.seq (.region f29r23) f29b22)
theorem uf29b24 (P ts os Q) : awl P f29b24 Q ts os = awl P (.seq (.region f29r23) f29b22) Q ts os := id rfl
def f29r25 : List AI := [⟨none, (.call (some 23) 55 [(.v (.k (.c (.int .i64 0))))])⟩, ⟨none, (.call (some 24) 55 [(.v (.k (.c (.int .i64 0))))])⟩, ⟨none, (.bslice 25 41 3 [(.int .i64 0), (.int .i64 0), (.list 0 (some true) [])] 2 [(0, (.t 23)), (1, (.t 24))])⟩, ⟨none, (.call (some 26) 54 [(.v (.k (.c (.int .i64 11)))), (.t 25)])⟩, ⟨none, (.alloc 4 41 [(.int .i64 0), (.int .i64 0), (.list 0 (some true) [])])⟩, ⟨none, (.store 3 (.t 4) (.t 26))⟩]
theorem uf29r25 : type_of% @f29r25.eq_1 := id @f29r25.eq_1
def f29b26 : AQ := (.seq (.region f29r25) f29b24)
theorem uf29b26 (P ts os Q) : awl P f29b26 Q ts os = awl P (.seq (.region f29r25) f29b24) Q ts os := id rfl
def f29r27 : List AI := [⟨none, (.call (some 18) 55 [(.v (.k (.c (.int .i64 17))))])⟩, ⟨none, (.call (some 19) 55 [(.v (.k (.c (.int .i64 0))))])⟩, ⟨none, (.call (some 20) 56 [(.v (.k (.c (.int .i64 3))))])⟩, ⟨none, (.bslice 21 41 3 [(.int .i64 0), (.int .i64 0), (.list 0 (some true) [])] 3 [(0, (.t 18)), (1, (.t 19)), (2, (.t 20))])⟩, ⟨none, (.call (some 22) 54 [(.v (.k (.c (.int .i64 6)))), (.t 21)])⟩, ⟨none, (.alloc 3 41 [(.int .i64 0), (.int .i64 0), (.list 0 (some true) [])])⟩, ⟨none, (.store 3 (.t 3) (.t 22))⟩]
theorem uf29r27 : type_of% @f29r27.eq_1 := id @f29r27.eq_1
def f29b28 : AQ := (.seq (.region f29r27) f29b26)
theorem uf29b28 (P ts os Q) : awl P f29b28 Q ts os = awl P (.seq (.region f29r27) f29b26) Q ts os := id rfl
def f29r29 : List AI := [⟨none, (.call (some 13) 55 [(.v (.k (.c (.int .i64 17))))])⟩, ⟨none, (.call (some 14) 56 [(.v (.k (.c (.int .i64 3))))])⟩, ⟨none, (.call (some 15) 56 [(.v (.k (.c (.int .i64 3))))])⟩, ⟨none, (.bslice 16 41 3 [(.int .i64 0), (.int .i64 0), (.list 0 (some true) [])] 3 [(0, (.t 13)), (1, (.t 14)), (2, (.t 15))])⟩, ⟨none, (.call (some 17) 54 [(.v (.k (.c (.int .i64 6)))), (.t 16)])⟩, ⟨none, (.alloc 2 41 [(.int .i64 0), (.int .i64 0), (.list 0 (some true) [])])⟩, ⟨none, (.store 3 (.t 2) (.t 17))⟩]
theorem uf29r29 : type_of% @f29r29.eq_1 := id @f29r29.eq_1
def f29b30 : AQ := (.seq (.region f29r29) f29b28)
theorem uf29b30 (P ts os Q) : awl P f29b30 Q ts os = awl P (.seq (.region f29r29) f29b28) Q ts os := id rfl
def f29r31 : List AI := [⟨none, (.call (some 9) 55 [(.v (.k (.c (.int .i64 15))))])⟩, ⟨none, (.call (some 10) 55 [(.v (.k (.c (.int .i64 18))))])⟩, ⟨none, (.bslice 11 41 3 [(.int .i64 0), (.int .i64 0), (.list 0 (some true) [])] 2 [(0, (.t 9)), (1, (.t 10))])⟩, ⟨none, (.call (some 12) 54 [(.v (.k (.c (.int .i64 4)))), (.t 11)])⟩, ⟨none, (.alloc 1 41 [(.int .i64 0), (.int .i64 0), (.list 0 (some true) [])])⟩, ⟨none, (.store 3 (.t 1) (.t 12))⟩]
theorem uf29r31 : type_of% @f29r31.eq_1 := id @f29r31.eq_1
def f29b32 : AQ := (.seq (.region f29r31) f29b30)
theorem uf29b32 (P ts os Q) : awl P f29b32 Q ts os = awl P (.seq (.region f29r31) f29b30) Q ts os := id rfl
def f29r33 : List AI := [⟨none, (.mov 0 (.v (.k (.c (.bool false)))))⟩]
theorem uf29r33 : type_of% @f29r33.eq_1 := id @f29r33.eq_1
def f29b34 : AQ := (.seq (.region f29r33) f29b32)
theorem uf29b34 (P ts os Q) : awl P f29b34 Q ts os = awl P (.seq (.region f29r33) f29b32) Q ts os := id rfl
def f29 : AQ := f29b34
theorem uf29 (P ts os Q) : awl P f29 Q ts os = awl P f29b34 Q ts os := id rfl
theorem hf29 : cFunc Try.prog 29 = some ⟨95, f29.erase, [(RX.t 0)]⟩ := by kernel_rfl
theorem okf29 : f29.ok = true := by kernel_rfl
def f30r1 : List AI := [⟨none, (.load 3 3 true (.t 1))⟩, ⟨none, (.call (some 4) 58 [(.t 3), (.v (.k (.c (.int .i64 100)))), (.v (.k (.c (.int .i64 20))))])⟩, ⟨none, (.bin 5 .geq (.t 4) (.v (.k (.c (.int .i64 0)))))⟩, ⟨none, (.mov 2 (.t 5))⟩]
theorem uf30r1 : type_of% @f30r1.eq_1 := id @f30r1.eq_1
def f30b2 : AQ := (.seq (.region f30r1) .ret)
theorem uf30b2 (P ts os Q) : awl P f30b2 Q ts os = awl P (.seq (.region f30r1) .ret) Q ts os := id rfl
def f30r3 : List AI := [⟨none, (.box 1 41 (.t 0))⟩, ⟨none, (.mov 2 (.v (.k (.c (.bool false)))))⟩]
theorem uf30r3 : type_of% @f30r3.eq_1 := id @f30r3.eq_1
def f30b4 : AQ := (.seq (.region f30r3) f30b2)
theorem uf30b4 (P ts os Q) : awl P f30b4 Q ts os = awl P (.seq (.region f30r3) f30b2) Q ts os := id rfl
def f30 : AQ := f30b4
theorem uf30 (P ts os Q) : awl P f30 Q ts os = awl P f30b4 Q ts os := id rfl
theorem hf30 : cFunc Try.prog 30 = some ⟨6, f30.erase, [(RX.t 2)]⟩ := by kernel_rfl
theorem okf30 : f30.ok = true := by kernel_rfl
def f31r1 : List AI := [⟨none, (.load 7 3 true (.t 1))⟩, ⟨none, (.call (some 8) 60 [(.t 7)])⟩, ⟨none, (.extr 9 (.t 8) 0)⟩, ⟨none, (.extr 10 (.t 8) 1)⟩, ⟨none, (.mov 2 (.t 9))⟩, ⟨none, (.mov 3 (.t 10))⟩]
theorem uf31r1 : type_of% @f31r1.eq_1 := id @f31r1.eq_1
def f31b2 : AQ := (.seq (.region f31r1) .ret)
theorem uf31b2 (P ts os Q) : awl P f31b2 Q ts os = awl P (.seq (.region f31r1) .ret) Q ts os := id rfl
def f31r3 : List AI := [⟨none, (.mov 2 (.v (.k (.c (.int .i64 0)))))⟩, ⟨none, (.mov 3 (.v (.k (.c (.int .i64 6)))))⟩]
theorem uf31r3 : type_of% @f31r3.eq_1 := id @f31r3.eq_1
def f31b4 : AQ := (.seq (.region f31r3) .ret)
theorem uf31b4 (P ts os Q) : awl P f31b4 Q ts os = awl P (.seq (.region f31r3) .ret) Q ts os := id rfl
def f31b5 : AQ := (.cond (.t 6) f31b4 .skip)
theorem uf31b5 (P ts os Q) : awl P f31b5 Q ts os = awl P (.cond (.t 6) f31b4 .skip) Q ts os := id rfl
def f31r6 : List AI := [⟨none, (.load 4 3 true (.t 1))⟩, ⟨none, (.call (some 5) 59 [(.t 4), (.v (.k (.c (.int .i64 1))))])⟩, ⟨none, (.bin 6 .gtr (.t 5) (.v (.k (.c (.int .i64 60)))))⟩]
theorem uf31r6 : type_of% @f31r6.eq_1 := id @f31r6.eq_1
def f31b7 : AQ := (.seq (.region f31r6) f31b5)
theorem uf31b7 (P ts os Q) : awl P f31b7 Q ts os = awl P (.seq (.region f31r6) f31b5) Q ts os := id rfl
def f31b8 : AQ := (.seq f31b7 f31b2)
theorem uf31b8 (P ts os Q) : awl P f31b8 Q ts os = awl P (.seq f31b7 f31b2) Q ts os := id rfl
def f31r9 : List AI := [⟨none, (.box 1 41 (.t 0))⟩, ⟨none, (.mov 2 (.v (.k (.c (.int .i64 0)))))⟩, ⟨none, (.mov 3 (.v (.k (.c (.int .i64 0)))))⟩]
theorem uf31r9 : type_of% @f31r9.eq_1 := id @f31r9.eq_1
def f31b10 : AQ := (.seq (.region f31r9) f31b8)
theorem uf31b10 (P ts os Q) : awl P f31b10 Q ts os = awl P (.seq (.region f31r9) f31b8) Q ts os := id rfl
def f31 : AQ := f31b10
theorem uf31 (P ts os Q) : awl P f31 Q ts os = awl P f31b10 Q ts os := id rfl
theorem hf31 : cFunc Try.prog 31 = some ⟨11, f31.erase, [(RX.t 2), (RX.t 3)]⟩ := by kernel_rfl
theorem okf31 : f31.ok = true := by kernel_rfl
def f33r1 : List AI := [⟨none, (.mov 2 (.v (.k (.c (.int .i64 1)))))⟩, ⟨none, (.mov 3 (.v (.k (.c (.bool true)))))⟩]
theorem uf33r1 : type_of% @f33r1.eq_1 := id @f33r1.eq_1
def f33b2 : AQ := (.seq (.region f33r1) .ret)
theorem uf33b2 (P ts os Q) : awl P f33b2 Q ts os = awl P (.seq (.region f33r1) .ret) Q ts os := id rfl
def f33r3 : List AI := [⟨none, (.mov 2 (.v (.k (.c (.int .i64 0)))))⟩, ⟨none, (.mov 3 (.v (.k (.c (.bool false)))))⟩]
theorem uf33r3 : type_of% @f33r3.eq_1 := id @f33r3.eq_1
def f33b4 : AQ := (.seq (.region f33r3) .ret)
theorem uf33b4 (P ts os Q) : awl P f33b4 Q ts os = awl P (.seq (.region f33r3) .ret) Q ts os := id rfl
def f33r5 : List AI := [⟨none, (.mov 2 (.v (.k (.c (.int .i64 0)))))⟩, ⟨none, (.mov 3 (.v (.k (.c (.bool true)))))⟩]
theorem uf33r5 : type_of% @f33r5.eq_1 := id @f33r5.eq_1
def f33b6 : AQ := (.seq (.region f33r5) .ret)
theorem uf33b6 (P ts os Q) : awl P f33b6 Q ts os = awl P (.seq (.region f33r5) .ret) Q ts os := id rfl
def f33b7 : AQ := (.cond (.t 11) f33b6 .skip)
theorem uf33b7 (P ts os Q) : awl P f33b7 Q ts os = awl P (.cond (.t 11) f33b6 .skip) Q ts os := id rfl
def f33r8 : List AI := [⟨none, (.mov 12 (.t 0))⟩, ⟨none, (.bin 13 .lss (.t 12) (.v (.k (.c (.int .i64 7)))))⟩, ⟨none, (.mov 11 (.t 13))⟩]
theorem uf33r8 : type_of% @f33r8.eq_1 := id @f33r8.eq_1
def f33b9 : AQ := (.seq (.region f33r8) f33b7)
theorem uf33b9 (P ts os Q) : awl P f33b9 Q ts os = awl P (.seq (.region f33r8) f33b7) Q ts os := id rfl
def f33b10 : AQ := (.cond (.t 4) f33b4 f33b9)
theorem uf33b10 (P ts os Q) : awl P f33b10 Q ts os = awl P (.cond (.t 4) f33b4 f33b9) Q ts os := id rfl
def f33r11 : List AI := [⟨none, (.mov 5 (.t 0))⟩, ⟨none, (.bin 6 .lss (.t 5) (.v (.k (.c (.int .i64 0)))))⟩, ⟨none, (.mov 7 (.t 6))⟩, ⟨(some (7, false)), (.mov 8 (.t 0))⟩, ⟨(some (7, false)), (.bin 9 .gtr (.t 8) (.v (.k (.c (.int .i64 19)))))⟩, ⟨none, (.pick 10 (.t 7) (.v (.k (.c (.bool true)))) (.t 9))⟩, ⟨none, (.mov 4 (.t 10))⟩]
theorem uf33r11 : type_of% @f33r11.eq_1 := id @f33r11.eq_1
def f33b12 : AQ := (.seq (.region f33r11) f33b10)
theorem uf33b12 (P ts os Q) : awl P f33b12 Q ts os = awl P (.seq (.region f33r11) f33b10) Q ts os := id rfl
def f33b13 : AQ := (.block 0 f33b12)
theorem uf33b13 (P ts os Q) : awl P f33b13 Q ts os = awl P (.block 0 f33b12) Q ts os := id rfl
def f33b14 : AQ := (.seq f33b13 f33b2)
theorem uf33b14 (P ts os Q) : awl P f33b14 Q ts os = awl P (.seq f33b13 f33b2) Q ts os := id rfl
def f33r15 : List AI := [⟨none, (.mov 2 (.v (.k (.c (.int .i64 0)))))⟩, ⟨none, (.mov 3 (.v (.k (.c (.bool false)))))⟩]
theorem uf33r15 : type_of% @f33r15.eq_1 := id @f33r15.eq_1
def f33b16 : AQ := (.seq (.region f33r15) f33b14)
theorem uf33b16 (P ts os Q) : awl P f33b16 Q ts os = awl P (.seq (.region f33r15) f33b14) Q ts os := id rfl
def f33 : AQ := f33b16
theorem uf33 (P ts os Q) : awl P f33 Q ts os = awl P f33b16 Q ts os := id rfl
theorem hf33 : cFunc Try.prog 33 = some ⟨14, f33.erase, [(RX.t 2), (RX.t 3)]⟩ := by kernel_rfl
theorem okf33 : f33.ok = true := by kernel_rfl
def f35r1 : List AI := [⟨none, (.load 20 1 false (.t 5))⟩, ⟨none, (.call (some 21) 50 [(.t 20)])⟩, ⟨none, (.mov 2 (.t 21))⟩]
theorem uf35r1 : type_of% @f35r1.eq_1 := id @f35r1.eq_1
def f35b2 : AQ := (.seq (.region f35r1) .ret)
theorem uf35b2 (P ts os Q) : awl P f35b2 Q ts os = awl P (.seq (.region f35r1) .ret) Q ts os := id rfl
def f35r3 : List AI := [⟨none, (.load 18 1 false (.t 5))⟩, ⟨none, (.call (some 19) 49 [(.t 18)])⟩]
theorem uf35r3 : type_of% @f35r3.eq_1 := id @f35r3.eq_1
def f35b4 : AQ := (.seq (.region f35r3) f35b2)
theorem uf35b4 (P ts os Q) : awl P f35b4 Q ts os = awl P (.seq (.region f35r3) f35b2) Q ts os := id rfl
def f35r5 : List AI := [⟨none, (.load 15 1 false (.t 6))⟩, ⟨none, (.load 16 3 true (.t 1))⟩, ⟨none, (.callv (some 17) (.t 15) [(.t 16)])⟩]
theorem uf35r5 : type_of% @f35r5.eq_1 := id @f35r5.eq_1
def f35b6 : AQ := (.swap 6 1006 (.swap 5 1005 (.seq (.region f35r5) f35b4)))
theorem uf35b6 (P ts os Q) : awl P f35b6 Q ts os = awl P (.swap 6 1006 (.swap 5 1005 (.seq (.region f35r5) f35b4))) Q ts os := id rfl
def f35r7 : List AI := [⟨none, (.mkfn 14 62 [(.t 5), (.t 6)])⟩, ⟨none, (.store 1 (.t 6) (.t 14))⟩]
theorem uf35r7 : type_of% @f35r7.eq_1 := id @f35r7.eq_1
def f35b8 : AQ := (.seq (.region f35r7) f35b6)
theorem uf35b8 (P ts os Q) : awl P f35b8 Q ts os = awl P (.seq (.region f35r7) f35b6) Q ts os := id rfl
def f35r9 : List AI := [⟨none, (.alloc 6 80 [.nilf])⟩]
theorem uf35r9 : type_of% @f35r9.eq_1 := id @f35r9.eq_1
def f35b10 : AQ := (.seq (.region f35r9) f35b8)
theorem uf35b10 (P ts os Q) : awl P f35b10 Q ts os = awl P (.seq (.region f35r9) f35b8) Q ts os := id rfl
def f35r11 : List AI := [⟨none, (.alloc 5 36 [(.list 0 (some true) [])])⟩]
theorem uf35r11 : type_of% @f35r11.eq_1 := id @f35r11.eq_1
def f35b12 : AQ := (.seq (.region f35r11) (.own 5 1000 3 1 f35b10))
theorem uf35b12 (P ts os Q) : awl P f35b12 Q ts os = awl P (.seq (.region f35r11) (.own 5 1000 3 1 f35b10)) Q ts os := id rfl
def f35r13 : List AI := [⟨none, (.nilL 2 3 1)⟩]
theorem uf35r13 : type_of% @f35r13.eq_1 := id @f35r13.eq_1
def f35b14 : AQ := (.seq (.region f35r13) .ret)
theorem uf35b14 (P ts os Q) : awl P f35b14 Q ts os = awl P (.seq (.region f35r13) .ret) Q ts os := id rfl
def f35b15 : AQ := (.cond (.t 13) f35b14 .skip)
theorem uf35b15 (P ts os Q) : awl P f35b15 Q ts os = awl P (.cond (.t 13) f35b14 .skip) Q ts os := id rfl
def f35r16 : List AI := [⟨none, (.mov 12 (.t 4))⟩, ⟨none, (.bin 13 .neq (.t 12) (.v (.k (.c (.int .i64 0)))))⟩]
theorem uf35r16 : type_of% @f35r16.eq_1 := id @f35r16.eq_1
def f35b17 : AQ := (.seq (.region f35r16) f35b15)
theorem uf35b17 (P ts os Q) : awl P f35b17 Q ts os = awl P (.seq (.region f35r16) f35b15) Q ts os := id rfl
def f35r18 : List AI := [⟨none, (.load 8 3 true (.t 1))⟩, ⟨none, (.call (some 9) 31 [(.t 8)])⟩, ⟨none, (.mov 7 (.t 9))⟩, ⟨none, (.extr 10 (.t 7) 0)⟩, ⟨none, (.extr 11 (.t 7) 1)⟩, ⟨none, (.mov 3 (.t 10))⟩, ⟨none, (.mov 4 (.t 11))⟩]
theorem uf35r18 : type_of% @f35r18.eq_1 := id @f35r18.eq_1
def f35b19 : AQ := (.seq (.region f35r18) f35b17)
theorem uf35b19 (P ts os Q) : awl P f35b19 Q ts os = awl P (.seq (.region f35r18) f35b17) Q ts os := id rfl
def f35b20 : AQ := (.seq f35b19 f35b12)
theorem uf35b20 (P ts os Q) : awl P f35b20 Q ts os = awl P (.seq f35b19 f35b12) Q ts os := id rfl
def f35r21 : List AI := [⟨none, (.box 1 41 (.t 0))⟩, ⟨none, (.nilL 2 3 1)⟩]
theorem uf35r21 : type_of% @f35r21.eq_1 := id @f35r21.eq_1
def f35b22 : AQ := (.seq (.region f35r21) f35b20)
theorem uf35b22 (P ts os Q) : awl P f35b22 Q ts os = awl P (.seq (.region f35r21) f35b20) Q ts os := id rfl
def f35 : AQ := f35b22
theorem uf35 (P ts os Q) : awl P f35 Q ts os = awl P f35b22 Q ts os := id rfl
theorem hf35 : cFunc Try.prog 35 = some ⟨22, f35.erase, [(RX.t 2)]⟩ := by kernel_rfl
theorem okf35 : f35.ok = true := by kernel_rfl
def f37r1 : List AI := [⟨none, (.load 24 2 true (.t 7))⟩, ⟨none, (.store 2 (.t 4) (.t 24))⟩]
theorem uf37r1 : type_of% @f37r1.eq_1 := id @f37r1.eq_1
def f37b2 : AQ := (.seq (.region f37r1) .ret)
theorem uf37b2 (P ts os Q) : awl P f37b2 Q ts os = awl P (.seq (.region f37r1) .ret) Q ts os := id rfl
def f37r3 : List AI := [⟨none, (.mov 18 (.t 1))⟩, ⟨none, (.build 19 [(.list 0 (some true) [])] [(0, (1, (.t 18)))])⟩, ⟨none, (.load 20 3 true (.t 2))⟩, ⟨none, (.call (some 21) 64 [(.t 19), (.t 20)])⟩, ⟨none, (.mov 17 (.t 21))⟩, ⟨none, (.extr 22 (.t 17) 0)⟩, ⟨none, (.extr 23 (.t 17) 1)⟩, ⟨none, (.alloc 7 53 [(.bool false), (.int .i64 0)])⟩, ⟨none, (.store 2 (.t 7) (.t 22))⟩, ⟨none, (.mov 8 (.t 23))⟩]
theorem uf37r3 : type_of% @f37r3.eq_1 := id @f37r3.eq_1
def f37b4 : AQ := (.seq (.region f37r3) f37b2)
theorem uf37b4 (P ts os Q) : awl P f37b4 Q ts os = awl P (.seq (.region f37r3) f37b2) Q ts os := id rfl
def f37r5 : List AI := [⟨none, (.build 16 [(.bool false), (.int .i64 0)] [])⟩, ⟨none, (.store 2 (.t 4) (.t 16))⟩]
theorem uf37r5 : type_of% @f37r5.eq_1 := id @f37r5.eq_1
def f37b6 : AQ := (.seq (.region f37r5) .ret)
theorem uf37b6 (P ts os Q) : awl P f37b6 Q ts os = awl P (.seq (.region f37r5) .ret) Q ts os := id rfl
def f37b7 : AQ := (.cond (.t 15) f37b6 .skip)
theorem uf37b7 (P ts os Q) : awl P f37b7 Q ts os = awl P (.cond (.t 15) f37b6 .skip) Q ts os := id rfl
def f37r8 : List AI := [⟨none, (.mov 14 (.t 6))⟩, ⟨none, (.bin 15 .neq (.t 14) (.v (.k (.c (.int .i64 0)))))⟩]
theorem uf37r8 : type_of% @f37r8.eq_1 := id @f37r8.eq_1
def f37b9 : AQ := (.seq (.region f37r8) f37b7)
theorem uf37b9 (P ts os Q) : awl P f37b9 Q ts os = awl P (.seq (.region f37r8) f37b7) Q ts os := id rfl
def f37r10 : List AI := [⟨none, (.load 10 3 true (.t 2))⟩, ⟨none, (.call (some 11) 31 [(.t 10)])⟩, ⟨none, (.mov 9 (.t 11))⟩, ⟨none, (.extr 12 (.t 9) 0)⟩, ⟨none, (.extr 13 (.t 9) 1)⟩, ⟨none, (.mov 5 (.t 12))⟩, ⟨none, (.mov 6 (.t 13))⟩]
theorem uf37r10 : type_of% @f37r10.eq_1 := id @f37r10.eq_1
def f37b11 : AQ := (.seq (.region f37r10) f37b9)
theorem uf37b11 (P ts os Q) : awl P f37b11 Q ts os = awl P (.seq (.region f37r10) f37b9) Q ts os := id rfl
def f37b12 : AQ := (.seq f37b11 f37b4)
theorem uf37b12 (P ts os Q) : awl P f37b12 Q ts os = awl P (.seq f37b11 f37b4) Q ts os := id rfl
def f37r13 : List AI := [⟨none, (.box 2 41 (.t 0))⟩, ⟨none, (.alloc 4 53 [(.bool false), (.int .i64 0)])⟩]
theorem uf37r13 : type_of% @f37r13.eq_1 := id @f37r13.eq_1
def f37b14 : AQ := (.seq (.region f37r13) f37b12)
theorem uf37b14 (P ts os Q) : awl P f37b14 Q ts os = awl P (.seq (.region f37r13) f37b12) Q ts os := id rfl
def f37 : AQ := f37b14
theorem uf37 (P ts os Q) : awl P f37 Q ts os = awl P f37b14 Q ts os := id rfl
theorem hf37 : cFunc Try.prog 37 = some ⟨25, f37.erase, [(RX.cell 4 2 true)]⟩ := by kernel_rfl
theorem okf37 : f37.ok = true := by kernel_rfl
def f39r1 : List AI := [⟨none, (.mov 25 (.t 8))⟩, ⟨none, (.call (some 26) 50 [(.t 25)])⟩, ⟨none, (.mov 4 (.t 26))⟩]
def f39b2 : AQ := (.seq (.region f39r1) .ret)
def f39r3 : List AI := [⟨none, (.mov 23 (.t 8))⟩, ⟨none, (.call (some 24) 49 [(.t 23)])⟩]
def f39b4 : AQ := (.seq (.region f39r3) f39b2)
def f39r5 : List AI := [⟨none, (.mov 17 (.t 1))⟩, ⟨none, (.build 18 [(.list 0 (some true) [])] [(0, (1, (.t 17)))])⟩, ⟨none, (.load 19 3 true (.t 2))⟩, ⟨none, (.call (some 20) 64 [(.t 18), (.t 19)])⟩, ⟨none, (.mov 16 (.t 20))⟩, ⟨none, (.extr 21 (.t 16) 0)⟩, ⟨none, (.extr 22 (.t 16) 1)⟩, ⟨none, (.alloc 7 53 [(.bool false), (.int .i64 0)])⟩, ⟨none, (.store 2 (.t 7) (.t 21))⟩, ⟨none, (.mov 8 (.t 22))⟩]
theorem uf39r5 : type_of% @f39r5.eq_1 := id @f39r5.eq_1
def f39b6 : AQ := (.seq (.region f39r5) f39b4)
def f39r7 : List AI := [⟨none, (.nilL 4 3 1)⟩]
theorem uf39r7 : type_of% @f39r7.eq_1 := id @f39r7.eq_1
def f39b8 : AQ := (.seq (.region f39r7) .ret)
theorem uf39b8 (P ts os Q) : awl P f39b8 Q ts os = awl P (.seq (.region f39r7) .ret) Q ts os := id rfl
def f39b9 : AQ := (.cond (.t 15) f39b8 .skip)
theorem uf39b9 (P ts os Q) : awl P f39b9 Q ts os = awl P (.cond (.t 15) f39b8 .skip) Q ts os := id rfl
def f39r10 : List AI := [⟨none, (.mov 14 (.t 6))⟩, ⟨none, (.bin 15 .neq (.t 14) (.v (.k (.c (.int .i64 0)))))⟩]
theorem uf39r10 : type_of% @f39r10.eq_1 := id @f39r10.eq_1
def f39b11 : AQ := (.seq (.region f39r10) f39b9)
theorem uf39b11 (P ts os Q) : awl P f39b11 Q ts os = awl P (.seq (.region f39r10) f39b9) Q ts os := id rfl
def f39r12 : List AI := [⟨none, (.load 10 3 true (.t 2))⟩, ⟨none, (.call (some 11) 31 [(.t 10)])⟩, ⟨none, (.mov 9 (.t 11))⟩, ⟨none, (.extr 12 (.t 9) 0)⟩, ⟨none, (.extr 13 (.t 9) 1)⟩, ⟨none, (.mov 5 (.t 12))⟩, ⟨none, (.mov 6 (.t 13))⟩]
theorem uf39r12 : type_of% @f39r12.eq_1 := id @f39r12.eq_1
def f39b13 : AQ := (.seq (.region f39r12) f39b11)
theorem uf39b13 (P ts os Q) : awl P f39b13 Q ts os = awl P (.seq (.region f39r12) f39b11) Q ts os := id rfl
def f39b14 : AQ := (.seq f39b13 f39b6)
def f39r15 : List AI := [⟨none, (.box 2 41 (.t 0))⟩, ⟨none, (.nilL 4 3 1)⟩]
theorem uf39r15 : type_of% @f39r15.eq_1 := id @f39r15.eq_1
def f39b16 : AQ := (.seq (.region f39r15) f39b14)
def f39 : AQ := f39b16
theorem hf39 : cFunc Try.prog 39 = some ⟨27, f39.erase, [(RX.t 4)]⟩ := by kernel_rfl
def f54r1 : List AI := [⟨none, (.mov 5 (.t 0))⟩, ⟨none, (.mov 6 (.t 1))⟩, ⟨none, (.build 7 [(.int .i64 0), (.int .i64 0), (.list 0 (some true) [])] [(0, (1, (.t 5))), (2, (1, (.t 6)))])⟩, ⟨none, (.store 3 (.t 4) (.t 7))⟩]
theorem uf54r1 : type_of% @f54r1.eq_1 := id @f54r1.eq_1
def f54b2 : AQ := (.seq (.region f54r1) .ret)
theorem uf54b2 (P ts os Q) : awl P f54b2 Q ts os = awl P (.seq (.region f54r1) .ret) Q ts os := id rfl
def f54r3 : List AI := [⟨none, (.alloc 4 41 [(.int .i64 0), (.int .i64 0), (.list 0 (some true) [])])⟩]
theorem uf54r3 : type_of% @f54r3.eq_1 := id @f54r3.eq_1
def f54b4 : AQ := (.seq (.region f54r3) f54b2)
theorem uf54b4 (P ts os Q) : awl P f54b4 Q ts os = awl P (.seq (.region f54r3) f54b2) Q ts os := id rfl
def f54 : AQ := f54b4
theorem uf54 (P ts os Q) : awl P f54 Q ts os = awl P f54b4 Q ts os := id rfl
theorem hf54 : cFunc Try.prog 54 = some ⟨8, f54.erase, [(RX.cell 4 3 true)]⟩ := by kernel_rfl
theorem okf54 : f54.ok = true := by kernel_rfl
def f55r1 : List AI := [⟨none, (.mov 3 (.t 0))⟩, ⟨none, (.build 4 [(.int .i64 0), (.int .i64 0), (.list 0 (some true) [])] [(0, (1, (.v (.k (.c (.int .i64 2)))))), (1, (1, (.t 3)))])⟩, ⟨none, (.store 3 (.t 2) (.t 4))⟩]
theorem uf55r1 : type_of% @f55r1.eq_1 := id @f55r1.eq_1
def f55b2 : AQ := (.seq (.region f55r1) .ret)
theorem uf55b2 (P ts os Q) : awl P f55b2 Q ts os = awl P (.seq (.region f55r1) .ret) Q ts os := id rfl
def f55r3 : List AI := [⟨none, (.alloc 2 41 [(.int .i64 0), (.int .i64 0), (.list 0 (some true) [])])⟩]
theorem uf55r3 : type_of% @f55r3.eq_1 := id @f55r3.eq_1
def f55b4 : AQ := (.seq (.region f55r3) f55b2)
theorem uf55b4 (P ts os Q) : awl P f55b4 Q ts os = awl P (.seq (.region f55r3) f55b2) Q ts os := id rfl
def f55 : AQ := f55b4
theorem uf55 (P ts os Q) : awl P f55 Q ts os = awl P f55b4 Q ts os := id rfl
theorem hf55 : cFunc Try.prog 55 = some ⟨5, f55.erase, [(RX.cell 2 3 true)]⟩ := by kernel_rfl
theorem okf55 : f55.ok = true := by kernel_rfl
def f56r1 : List AI := [⟨none, (.mov 3 (.t 0))⟩, ⟨none, (.build 4 [(.int .i64 0), (.int .i64 0), (.list 0 (some true) [])] [(1, (1, (.t 3)))])⟩, ⟨none, (.store 3 (.t 2) (.t 4))⟩]
theorem uf56r1 : type_of% @f56r1.eq_1 := id @f56r1.eq_1
def f56b2 : AQ := (.seq (.region f56r1) .ret)
theorem uf56b2 (P ts os Q) : awl P f56b2 Q ts os = awl P (.seq (.region f56r1) .ret) Q ts os := id rfl
def f56r3 : List AI := [⟨none, (.alloc 2 41 [(.int .i64 0), (.int .i64 0), (.list 0 (some true) [])])⟩]
theorem uf56r3 : type_of% @f56r3.eq_1 := id @f56r3.eq_1
def f56b4 : AQ := (.seq (.region f56r3) f56b2)
theorem uf56b4 (P ts os Q) : awl P f56b4 Q ts os = awl P (.seq (.region f56r3) f56b2) Q ts os := id rfl
def f56 : AQ := f56b4
theorem uf56 (P ts os Q) : awl P f56 Q ts os = awl P f56b4 Q ts os := id rfl
theorem hf56 : cFunc Try.prog 56 = some ⟨5, f56.erase, [(RX.cell 2 3 true)]⟩ := by kernel_rfl
theorem okf56 : f56.ok = true := by kernel_rfl
def f57r1 : List AI := [⟨none, (.mov 12 (.t 5))⟩, ⟨none, (.mov 4 (.t 12))⟩]
theorem uf57r1 : type_of% @f57r1.eq_1 := id @f57r1.eq_1
def f57b2 : AQ := (.seq (.region f57r1) .ret)
theorem uf57b2 (P ts os Q) : awl P f57b2 Q ts os = awl P (.seq (.region f57r1) .ret) Q ts os := id rfl
def f57r3 : List AI := [⟨none, (.mov 7 (.t 5))⟩, ⟨none, (.mov 8 (.t 0))⟩, ⟨none, (.mov 9 (.t 1))⟩, ⟨none, (.build 10 [(.bool false), (.int .i64 0)] [(0, (1, (.v (.k (.c (.bool true)))))), (1, (1, (.t 9)))])⟩, ⟨none, (.iaddr 11 2 (.t 7) (.t 8))⟩, ⟨none, (.store 2 (.t 11) (.t 10))⟩]
theorem uf57r3 : type_of% @f57r3.eq_1 := id @f57r3.eq_1
def f57b4 : AQ := (.seq (.region f57r3) f57b2)
theorem uf57b4 (P ts os Q) : awl P f57b4 Q ts os = awl P (.seq (.region f57r3) f57b2) Q ts os := id rfl
def f57r5 : List AI := [⟨none, (.mkslice 6 53 2 16 [(.bool false), (.int .i64 0)] (.v (.k (.c (.int .i64 20)))) (.v (.k (.c (.int .i64 20)))))⟩, ⟨none, (.mov 5 (.t 6))⟩]
theorem uf57r5 : type_of% @f57r5.eq_1 := id @f57r5.eq_1
def f57b6 : AQ := (.seq (.region f57r5) f57b4)
theorem uf57b6 (P ts os Q) : awl P f57b6 Q ts os = awl P (.seq (.region f57r5) f57b4) Q ts os := id rfl
def f57r7 : List AI := [⟨none, (.nilL 4 53 2)⟩]
theorem uf57r7 : type_of% @f57r7.eq_1 := id @f57r7.eq_1
def f57b8 : AQ := (.seq (.region f57r7) f57b6)
theorem uf57b8 (P ts os Q) : awl P f57b8 Q ts os = awl P (.seq (.region f57r7) f57b6) Q ts os := id rfl
def f57 : AQ := f57b8
theorem uf57 (P ts os Q) : awl P f57 Q ts os = awl P f57b8 Q ts os := id rfl
theorem hf57 : cFunc Try.prog 57 = some ⟨13, f57.erase, [(RX.t 4)]⟩ := by kernel_rfl
theorem okf57 : f57.ok = true := by kernel_rfl
def f58r1 : List AI := [⟨none, (.mov 32 (.t 1))⟩, ⟨none, (.mov 6 (.t 32))⟩]
theorem uf58r1 : type_of% @f58r1.eq_1 := id @f58r1.eq_1
def f58b2 : AQ := (.seq (.region f58r1) .ret)
theorem uf58b2 (P ts os Q) : awl P f58b2 Q ts os = awl P (.seq (.region f58r1) .ret) Q ts os := id rfl
def f58r3 : List AI := [⟨none, (.mov 21 (.t 7))⟩, ⟨none, (.bin 22 .add (.t 21) (.v (.k (.c (.int .i64 1)))))⟩, ⟨none, (.mov 7 (.t 22))⟩]
theorem uf58r3 : type_of% @f58r3.eq_1 := id @f58r3.eq_1
def f58r4 : List AI := [⟨none, (.faddr 23 2 (.t 3))⟩, ⟨none, (.load 24 1 false (.t 23))⟩, ⟨none, (.mov 25 (.t 7))⟩, ⟨none, (.iaddr 26 3 (.t 24) (.t 25))⟩, ⟨none, (.load 27 3 true (.t 26))⟩, ⟨none, (.mov 28 (.t 1))⟩, ⟨none, (.mov 29 (.t 2))⟩, ⟨none, (.bin 30 .sub (.t 29) (.v (.k (.c (.int .i64 1)))))⟩, ⟨none, (.call (some 31) 58 [(.t 27), (.t 28), (.t 30)])⟩, ⟨none, (.mov 1 (.t 31))⟩]
theorem uf58r4 : type_of% @f58r4.eq_1 := id @f58r4.eq_1
def f58b5 : AQ := (.block 1 (.region f58r4))
theorem uf58b5 (P ts os Q) : awl P f58b5 Q ts os = awl P (.block 1 (.region f58r4)) Q ts os := id rfl
def f58b6 : AQ := (.seq f58b5 (.region f58r3))
theorem uf58b6 (P ts os Q) : awl P f58b6 Q ts os = awl P (.seq f58b5 (.region f58r3)) Q ts os := id rfl
def f58b7 : AQ := (.cond (.t 20) .skip (.exit 0))
theorem uf58b7 (P ts os Q) : awl P f58b7 Q ts os = awl P (.cond (.t 20) .skip (.exit 0)) Q ts os := id rfl
def f58r8 : List AI := [⟨none, (.mov 12 (.t 7))⟩, ⟨none, (.faddr 13 2 (.t 3))⟩, ⟨none, (.load 14 1 false (.t 13))⟩, ⟨none, (.len 15 (.t 14))⟩, ⟨none, (.bin 16 .lss (.t 12) (.t 15))⟩, ⟨none, (.mov 17 (.t 16))⟩, ⟨(some (17, true)), (.mov 18 (.t 1))⟩, ⟨(some (17, true)), (.bin 19 .geq (.t 18) (.v (.k (.c (.int .i64 0)))))⟩, ⟨none, (.pick 20 (.t 17) (.t 19) (.v (.k (.c (.bool false)))))⟩]
theorem uf58r8 : type_of% @f58r8.eq_1 := id @f58r8.eq_1
def f58b9 : AQ := (.seq (.region f58r8) f58b7)
theorem uf58b9 (P ts os Q) : awl P f58b9 Q ts os = awl P (.seq (.region f58r8) f58b7) Q ts os := id rfl
def f58b10 : AQ := (.seq f58b9 f58b6)
theorem uf58b10 (P ts os Q) : awl P f58b10 Q ts os = awl P (.seq f58b9 f58b6) Q ts os := id rfl
def f58l11 : AQ := .loop [1, 2, 3, 7] [3] f58b10
theorem uf58l11 (P ts os Q) : awl P f58l11 Q ts os = awl P (.loop [1, 2, 3, 7] [3] f58b10) Q ts os := id rfl
def f58b12 : AQ := (.block 0 f58l11)
theorem uf58b12 (P ts os Q) : awl P f58b12 Q ts os = awl P (.block 0 f58l11) Q ts os := id rfl
def f58r13 : List AI := [⟨none, (.mov 7 (.v (.k (.c (.int .i64 0)))))⟩]
theorem uf58r13 : type_of% @f58r13.eq_1 := id @f58r13.eq_1
def f58b14 : AQ := (.seq (.region f58r13) f58b12)
theorem uf58b14 (P ts os Q) : awl P f58b14 Q ts os = awl P (.seq (.region f58r13) f58b12) Q ts os := id rfl
def f58b15 : AQ := (.seq f58b14 f58b2)
theorem uf58b15 (P ts os Q) : awl P f58b15 Q ts os = awl P (.seq f58b14 f58b2) Q ts os := id rfl
def f58r16 : List AI := [⟨none, (.mov 6 (.v (.k (.c (.int .i64 (-1))))))⟩]
theorem uf58r16 : type_of% @f58r16.eq_1 := id @f58r16.eq_1
def f58b17 : AQ := (.seq (.region f58r16) .ret)
theorem uf58b17 (P ts os Q) : awl P f58b17 Q ts os = awl P (.seq (.region f58r16) .ret) Q ts os := id rfl
def f58b18 : AQ := (.cond (.t 11) f58b17 .skip)
theorem uf58b18 (P ts os Q) : awl P f58b18 Q ts os = awl P (.cond (.t 11) f58b17 .skip) Q ts os := id rfl
def f58r19 : List AI := [⟨none, (.mov 10 (.t 2))⟩, ⟨none, (.bin 11 .lss (.t 10) (.v (.k (.c (.int .i64 1)))))⟩]
theorem uf58r19 : type_of% @f58r19.eq_1 := id @f58r19.eq_1
def f58b20 : AQ := (.seq (.region f58r19) f58b18)
theorem uf58b20 (P ts os Q) : awl P f58b20 Q ts os = awl P (.seq (.region f58r19) f58b18) Q ts os := id rfl
def f58b21 : AQ := (.seq f58b20 f58b15)
theorem uf58b21 (P ts os Q) : awl P f58b21 Q ts os = awl P (.seq f58b20 f58b15) Q ts os := id rfl
def f58r22 : List AI := [⟨none, (.mov 8 (.t 1))⟩, ⟨none, (.bin 9 .sub (.t 8) (.v (.k (.c (.int .i64 1)))))⟩, ⟨none, (.mov 1 (.t 9))⟩]
theorem uf58r22 : type_of% @f58r22.eq_1 := id @f58r22.eq_1
def f58b23 : AQ := (.seq (.region f58r22) f58b21)
theorem uf58b23 (P ts os Q) : awl P f58b23 Q ts os = awl P (.seq (.region f58r22) f58b21) Q ts os := id rfl
def f58r24 : List AI := [⟨none, (.box 3 41 (.t 0))⟩, ⟨none, (.mov 6 (.v (.k (.c (.int .i64 0)))))⟩]
theorem uf58r24 : type_of% @f58r24.eq_1 := id @f58r24.eq_1
def f58b25 : AQ := (.seq (.region f58r24) f58b23)
theorem uf58b25 (P ts os Q) : awl P f58b25 Q ts os = awl P (.seq (.region f58r24) f58b23) Q ts os := id rfl
def f58 : AQ := f58b25
theorem uf58 (P ts os Q) : awl P f58 Q ts os = awl P f58b25 Q ts os := id rfl
theorem hf58 : cFunc Try.prog 58 = some ⟨33, f58.erase, [(RX.t 6)]⟩ := by kernel_rfl
theorem okf58 : f58.ok = true := by kernel_rfl
def f59r1 : List AI := [⟨none, (.mov 26 (.t 5))⟩, ⟨none, (.mov 4 (.t 26))⟩]
theorem uf59r1 : type_of% @f59r1.eq_1 := id @f59r1.eq_1
def f59b2 : AQ := (.seq (.region f59r1) .ret)
theorem uf59b2 (P ts os Q) : awl P f59b2 Q ts os = awl P (.seq (.region f59r1) .ret) Q ts os := id rfl
def f59r3 : List AI := [⟨none, (.bin 25 .add (.t 13) (.v (.k (.c (.int .i64 1)))))⟩, ⟨none, (.mov 13 (.t 25))⟩]
theorem uf59r3 : type_of% @f59r3.eq_1 := id @f59r3.eq_1
def f59b4 : AQ := (.cond (.t 24) (.exit 0) .skip)
theorem uf59b4 (P ts os Q) : awl P f59b4 Q ts os = awl P (.cond (.t 24) (.exit 0) .skip) Q ts os := id rfl
def f59r5 : List AI := [⟨none, (.mov 23 (.t 5))⟩, ⟨none, (.bin 24 .gtr (.t 23) (.v (.k (.c (.int .i64 60)))))⟩]
theorem uf59r5 : type_of% @f59r5.eq_1 := id @f59r5.eq_1
def f59b6 : AQ := (.seq (.region f59r5) f59b4)
theorem uf59b6 (P ts os Q) : awl P f59b6 Q ts os = awl P (.seq (.region f59r5) f59b4) Q ts os := id rfl
def f59r7 : List AI := [⟨none, (.mov 17 (.t 5))⟩, ⟨none, (.load 18 3 true (.t 7))⟩, ⟨none, (.mov 19 (.t 1))⟩, ⟨none, (.bin 20 .add (.t 19) (.v (.k (.c (.int .i64 1)))))⟩, ⟨none, (.call (some 21) 59 [(.t 18), (.t 20)])⟩, ⟨none, (.bin 22 .add (.t 17) (.t 21))⟩, ⟨none, (.mov 5 (.t 22))⟩]
theorem uf59r7 : type_of% @f59r7.eq_1 := id @f59r7.eq_1
def f59b8 : AQ := (.seq (.region f59r7) f59b6)
theorem uf59b8 (P ts os Q) : awl P f59b8 Q ts os = awl P (.seq (.region f59r7) f59b6) Q ts os := id rfl
def f59r9 : List AI := [⟨none, (.iaddr 15 3 (.t 11) (.t 13))⟩, ⟨none, (.load 16 3 true (.t 15))⟩, ⟨none, (.alloc 7 41 [(.int .i64 0), (.int .i64 0), (.list 0 (some true) [])])⟩, ⟨none, (.store 3 (.t 7) (.t 16))⟩]
theorem uf59r9 : type_of% @f59r9.eq_1 := id @f59r9.eq_1
def f59b10 : AQ := (.seq (.region f59r9) f59b8)
theorem uf59b10 (P ts os Q) : awl P f59b10 Q ts os = awl P (.seq (.region f59r9) f59b8) Q ts os := id rfl
def f59b11 : AQ := (.block 1 f59b10)
theorem uf59b11 (P ts os Q) : awl P f59b11 Q ts os = awl P (.block 1 f59b10) Q ts os := id rfl
def f59b12 : AQ := (.seq f59b11 (.region f59r3))
theorem uf59b12 (P ts os Q) : awl P f59b12 Q ts os = awl P (.seq f59b11 (.region f59r3)) Q ts os := id rfl
def f59b13 : AQ := (.cond (.t 14) .skip (.exit 0))
theorem uf59b13 (P ts os Q) : awl P f59b13 Q ts os = awl P (.cond (.t 14) .skip (.exit 0)) Q ts os := id rfl
def f59b14 : AQ := (.seq f59b13 f59b12)
theorem uf59b14 (P ts os Q) : awl P f59b14 Q ts os = awl P (.seq f59b13 f59b12) Q ts os := id rfl
def f59r15 : List AI := [⟨none, (.bin 14 .lss (.t 13) (.t 12))⟩]
theorem uf59r15 : type_of% @f59r15.eq_1 := id @f59r15.eq_1
def f59b16 : AQ := (.seq (.region f59r15) f59b14)
theorem uf59b16 (P ts os Q) : awl P f59b16 Q ts os = awl P (.seq (.region f59r15) f59b14) Q ts os := id rfl
def f59l17 : AQ := .loop [1, 5, 11, 12, 13] [] f59b16
theorem uf59l17 (P ts os Q) : awl P f59l17 Q ts os = awl P (.loop [1, 5, 11, 12, 13] [] f59b16) Q ts os := id rfl
def f59b18 : AQ := (.block 0 f59l17)
theorem uf59b18 (P ts os Q) : awl P f59b18 Q ts os = awl P (.block 0 f59l17) Q ts os := id rfl
def f59r19 : List AI := [⟨none, (.faddr 10 2 (.t 2))⟩, ⟨none, (.load 11 1 false (.t 10))⟩, ⟨none, (.len 12 (.t 11))⟩, ⟨none, (.mov 13 (.v (.k (.c (.int .i64 0)))))⟩]
theorem uf59r19 : type_of% @f59r19.eq_1 := id @f59r19.eq_1
def f59b20 : AQ := (.seq (.region f59r19) f59b18)
theorem uf59b20 (P ts os Q) : awl P f59b20 Q ts os = awl P (.seq (.region f59r19) f59b18) Q ts os := id rfl
def f59b21 : AQ := (.seq f59b20 f59b2)
theorem uf59b21 (P ts os Q) : awl P f59b21 Q ts os = awl P (.seq f59b20 f59b2) Q ts os := id rfl
def f59r22 : List AI := [⟨none, (.mov 5 (.v (.k (.c (.int .i64 1)))))⟩]
theorem uf59r22 : type_of% @f59r22.eq_1 := id @f59r22.eq_1
def f59b23 : AQ := (.seq (.region f59r22) f59b21)
theorem uf59b23 (P ts os Q) : awl P f59b23 Q ts os = awl P (.seq (.region f59r22) f59b21) Q ts os := id rfl
def f59r24 : List AI := [⟨none, (.mov 4 (.v (.k (.c (.int .i64 61)))))⟩]
theorem uf59r24 : type_of% @f59r24.eq_1 := id @f59r24.eq_1
def f59b25 : AQ := (.seq (.region f59r24) .ret)
theorem uf59b25 (P ts os Q) : awl P f59b25 Q ts os = awl P (.seq (.region f59r24) .ret) Q ts os := id rfl
def f59b26 : AQ := (.cond (.t 9) f59b25 .skip)
theorem uf59b26 (P ts os Q) : awl P f59b26 Q ts os = awl P (.cond (.t 9) f59b25 .skip) Q ts os := id rfl
def f59r27 : List AI := [⟨none, (.mov 8 (.t 1))⟩, ⟨none, (.bin 9 .gtr (.t 8) (.v (.k (.c (.int .i64 8)))))⟩]
theorem uf59r27 : type_of% @f59r27.eq_1 := id @f59r27.eq_1
def f59b28 : AQ := (.seq (.region f59r27) f59b26)
theorem uf59b28 (P ts os Q) : awl P f59b28 Q ts os = awl P (.seq (.region f59r27) f59b26) Q ts os := id rfl
def f59b29 : AQ := (.seq f59b28 f59b23)
theorem uf59b29 (P ts os Q) : awl P f59b29 Q ts os = awl P (.seq f59b28 f59b23) Q ts os := id rfl
def f59r30 : List AI := [⟨none, (.box 2 41 (.t 0))⟩, ⟨none, (.mov 4 (.v (.k (.c (.int .i64 0)))))⟩]
theorem uf59r30 : type_of% @f59r30.eq_1 := id @f59r30.eq_1
def f59b31 : AQ := (.seq (.region f59r30) f59b29)
theorem uf59b31 (P ts os Q) : awl P f59b31 Q ts os = awl P (.seq (.region f59r30) f59b29) Q ts os := id rfl
def f59 : AQ := f59b31
theorem uf59 (P ts os Q) : awl P f59 Q ts os = awl P f59b31 Q ts os := id rfl
theorem hf59 : cFunc Try.prog 59 = some ⟨27, f59.erase, [(RX.t 4)]⟩ := by kernel_rfl
theorem okf59 : f59.ok = true := by kernel_rfl
def f60r1 : List AI := [⟨none, (.faddr 111 1 (.t 9))⟩, ⟨none, (.load 112 1 false (.t 111))⟩, ⟨none, (.mov 2 (.t 112))⟩, ⟨none, (.mov 3 (.v (.k (.c (.int .i64 0)))))⟩]
theorem uf60r1 : type_of% @f60r1.eq_1 := id @f60r1.eq_1
def f60b2 : AQ := (.seq (.region f60r1) .ret)
theorem uf60b2 (P ts os Q) : awl P f60b2 Q ts os = awl P (.seq (.region f60r1) .ret) Q ts os := id rfl
def f60r3 : List AI := [⟨none, (.mov 110 (.t 10))⟩, ⟨none, (.mov 2 (.t 110))⟩, ⟨none, (.mov 3 (.v (.k (.c (.int .i64 0)))))⟩]
theorem uf60r3 : type_of% @f60r3.eq_1 := id @f60r3.eq_1
def f60b4 : AQ := (.seq (.region f60r3) .ret)
theorem uf60b4 (P ts os Q) : awl P f60b4 Q ts os = awl P (.seq (.region f60r3) .ret) Q ts os := id rfl
def f60b5 : AQ := (.cond (.t 109) f60b4 .skip)
theorem uf60b5 (P ts os Q) : awl P f60b5 Q ts os = awl P (.cond (.t 109) f60b4 .skip) Q ts os := id rfl
def f60r6 : List AI := [⟨none, (.faddr 107 1 (.t 9))⟩, ⟨none, (.load 108 1 false (.t 107))⟩, ⟨none, (.bin 109 .eql (.t 108) (.v (.k (.c (.int .i64 (-1))))))⟩]
theorem uf60r6 : type_of% @f60r6.eq_1 := id @f60r6.eq_1
def f60b7 : AQ := (.seq (.region f60r6) f60b5)
theorem uf60b7 (P ts os Q) : awl P f60b7 Q ts os = awl P (.seq (.region f60r6) f60b5) Q ts os := id rfl
def f60b8 : AQ := (.seq f60b7 f60b2)
theorem uf60b8 (P ts os Q) : awl P f60b8 Q ts os = awl P (.seq f60b7 f60b2) Q ts os := id rfl
def f60r9 : List AI := [⟨none, (.bin 106 .add (.t 82) (.v (.k (.c (.int .i64 1)))))⟩, ⟨none, (.mov 82 (.t 106))⟩]
theorem uf60r9 : type_of% @f60r9.eq_1 := id @f60r9.eq_1
def f60r10 : List AI := [⟨none, (.mov 2 (.v (.k (.c (.int .i64 0)))))⟩, ⟨none, (.mov 3 (.v (.k (.c (.int .i64 11)))))⟩]
theorem uf60r10 : type_of% @f60r10.eq_1 := id @f60r10.eq_1
def f60b11 : AQ := (.seq (.region f60r10) .ret)
theorem uf60b11 (P ts os Q) : awl P f60b11 Q ts os = awl P (.seq (.region f60r10) .ret) Q ts os := id rfl
def f60b12 : AQ := (.cond (.t 105) f60b11 .skip)
theorem uf60b12 (P ts os Q) : awl P f60b12 Q ts os = awl P (.cond (.t 105) f60b11 .skip) Q ts os := id rfl
def f60r13 : List AI := [⟨none, (.mov 100 (.t 4))⟩, ⟨none, (.mov 101 (.t 11))⟩, ⟨none, (.iaddr 102 1 (.t 100) (.t 101))⟩, ⟨none, (.load 103 1 false (.t 102))⟩, ⟨none, (.mov 104 (.t 12))⟩, ⟨none, (.bin 105 .neq (.t 103) (.t 104))⟩]
theorem uf60r13 : type_of% @f60r13.eq_1 := id @f60r13.eq_1
def f60b14 : AQ := (.seq (.region f60r13) f60b12)
theorem uf60b14 (P ts os Q) : awl P f60b14 Q ts os = awl P (.seq (.region f60r13) f60b12) Q ts os := id rfl
def f60r15 : List AI := [⟨none, (.mov 99 (.t 10))⟩, ⟨none, (.mov 12 (.t 99))⟩]
theorem uf60r15 : type_of% @f60r15.eq_1 := id @f60r15.eq_1
def f60b16 : AQ := (.cond (.t 98) (.region f60r15) .skip)
theorem uf60b16 (P ts os Q) : awl P f60b16 Q ts os = awl P (.cond (.t 98) (.region f60r15) .skip) Q ts os := id rfl
def f60r17 : List AI := [⟨none, (.mov 97 (.t 12))⟩, ⟨none, (.bin 98 .eql (.t 97) (.v (.k (.c (.int .i64 (-1))))))⟩]
theorem uf60r17 : type_of% @f60r17.eq_1 := id @f60r17.eq_1
def f60b18 : AQ := (.seq (.region f60r17) f60b16)
theorem uf60b18 (P ts os Q) : awl P f60b18 Q ts os = awl P (.seq (.region f60r17) f60b16) Q ts os := id rfl
def f60b19 : AQ := (.seq f60b18 f60b14)
theorem uf60b19 (P ts os Q) : awl P f60b19 Q ts os = awl P (.seq f60b18 f60b14) Q ts os := id rfl
def f60r20 : List AI := [⟨none, (.mov 93 (.t 4))⟩, ⟨none, (.mov 94 (.t 11))⟩, ⟨none, (.iaddr 95 1 (.t 93) (.t 94))⟩, ⟨none, (.load 96 1 false (.t 95))⟩, ⟨none, (.mov 10 (.t 96))⟩]
theorem uf60r20 : type_of% @f60r20.eq_1 := id @f60r20.eq_1
def f60b21 : AQ := (.cond (.t 92) (.region f60r20) .skip)
theorem uf60b21 (P ts os Q) : awl P f60b21 Q ts os = awl P (.cond (.t 92) (.region f60r20) .skip) Q ts os := id rfl
def f60r22 : List AI := [⟨none, (.mov 87 (.t 12))⟩, ⟨none, (.bin 88 .eql (.t 87) (.v (.k (.c (.int .i64 (-1))))))⟩, ⟨none, (.mov 89 (.t 88))⟩, ⟨(some (89, true)), (.mov 90 (.t 10))⟩, ⟨(some (89, true)), (.bin 91 .eql (.t 90) (.v (.k (.c (.int .i64 (-1))))))⟩, ⟨none, (.pick 92 (.t 89) (.t 91) (.v (.k (.c (.bool false)))))⟩]
theorem uf60r22 : type_of% @f60r22.eq_1 := id @f60r22.eq_1
def f60b23 : AQ := (.seq (.region f60r22) f60b21)
theorem uf60b23 (P ts os Q) : awl P f60b23 Q ts os = awl P (.seq (.region f60r22) f60b21) Q ts os := id rfl
def f60b24 : AQ := (.seq f60b23 f60b19)
theorem uf60b24 (P ts os Q) : awl P f60b24 Q ts os = awl P (.seq f60b23 f60b19) Q ts os := id rfl
def f60r25 : List AI := [⟨none, (.mov 84 (.t 82))⟩, ⟨none, (.iaddr 85 1 (.t 80) (.t 82))⟩, ⟨none, (.load 86 1 false (.t 85))⟩, ⟨none, (.mov 11 (.t 84))⟩, ⟨none, (.mov 12 (.t 86))⟩]
theorem uf60r25 : type_of% @f60r25.eq_1 := id @f60r25.eq_1
def f60b26 : AQ := (.seq (.region f60r25) f60b24)
theorem uf60b26 (P ts os Q) : awl P f60b26 Q ts os = awl P (.seq (.region f60r25) f60b24) Q ts os := id rfl
def f60b27 : AQ := (.block 4 f60b26)
theorem uf60b27 (P ts os Q) : awl P f60b27 Q ts os = awl P (.block 4 f60b26) Q ts os := id rfl
def f60b28 : AQ := (.seq f60b27 (.region f60r9))
theorem uf60b28 (P ts os Q) : awl P f60b28 Q ts os = awl P (.seq f60b27 (.region f60r9)) Q ts os := id rfl
def f60b29 : AQ := (.cond (.t 83) .skip (.exit 3))
theorem uf60b29 (P ts os Q) : awl P f60b29 Q ts os = awl P (.cond (.t 83) .skip (.exit 3)) Q ts os := id rfl
def f60b30 : AQ := (.seq f60b29 f60b28)
theorem uf60b30 (P ts os Q) : awl P f60b30 Q ts os = awl P (.seq f60b29 f60b28) Q ts os := id rfl
def f60r31 : List AI := [⟨none, (.bin 83 .lss (.t 82) (.t 81))⟩]
theorem uf60r31 : type_of% @f60r31.eq_1 := id @f60r31.eq_1
def f60b32 : AQ := (.seq (.region f60r31) f60b30)
theorem uf60b32 (P ts os Q) : awl P f60b32 Q ts os = awl P (.seq (.region f60r31) f60b30) Q ts os := id rfl
def f60l33 : AQ := .loop [4, 9, 10, 80, 81, 82] [9, 16, 67, 68000, 68001, 68002] f60b32
theorem uf60l33 (P ts os Q) : awl P f60l33 Q ts os = awl P (.loop [4, 9, 10, 80, 81, 82] [9, 16, 67, 68000, 68001, 68002] f60b32) Q ts os := id rfl
def f60b34 : AQ := (.block 3 f60l33)
theorem uf60b34 (P ts os Q) : awl P f60b34 Q ts os = awl P (.block 3 f60l33) Q ts os := id rfl
def f60r35 : List AI := [⟨none, (.faddr 79 0 (.t 9))⟩, ⟨none, (.load 80 1 false (.t 79))⟩, ⟨none, (.len 81 (.t 80))⟩, ⟨none, (.mov 82 (.v (.k (.c (.int .i64 0)))))⟩]
theorem uf60r35 : type_of% @f60r35.eq_1 := id @f60r35.eq_1
def f60b36 : AQ := (.seq (.region f60r35) f60b34)
theorem uf60b36 (P ts os Q) : awl P f60b36 Q ts os = awl P (.seq (.region f60r35) f60b34) Q ts os := id rfl
def f60b37 : AQ := (.seq f60b36 f60b8)
theorem uf60b37 (P ts os Q) : awl P f60b37 Q ts os = awl P (.seq f60b36 f60b8) Q ts os := id rfl
def f60r38 : List AI := [⟨none, (.mov 10 (.v (.k (.c (.int .i64 (-1))))))⟩]
theorem uf60r38 : type_of% @f60r38.eq_1 := id @f60r38.eq_1
def f60b39 : AQ := (.seq (.region f60r38) f60b37)
theorem uf60b39 (P ts os Q) : awl P f60b39 Q ts os = awl P (.seq (.region f60r38) f60b37) Q ts os := id rfl
def f60r40 : List AI := [⟨none, (.mov 2 (.v (.k (.c (.int .i64 0)))))⟩, ⟨none, (.mov 3 (.v (.k (.c (.int .i64 2)))))⟩]
theorem uf60r40 : type_of% @f60r40.eq_1 := id @f60r40.eq_1
def f60b41 : AQ := (.seq (.region f60r40) .ret)
theorem uf60b41 (P ts os Q) : awl P f60b41 Q ts os = awl P (.seq (.region f60r40) .ret) Q ts os := id rfl
def f60b42 : AQ := (.cond (.t 78) f60b41 .skip)
theorem uf60b42 (P ts os Q) : awl P f60b42 Q ts os = awl P (.cond (.t 78) f60b41 .skip) Q ts os := id rfl
def f60r43 : List AI := [⟨none, (.mov 68 (.t 4))⟩, ⟨none, (.len 69 (.t 68))⟩, ⟨none, (.faddr 70 0 (.t 9))⟩, ⟨none, (.load 71 1 false (.t 70))⟩, ⟨none, (.len 72 (.t 71))⟩, ⟨none, (.bin 73 .neq (.t 69) (.t 72))⟩, ⟨none, (.mov 74 (.t 73))⟩, ⟨(some (74, false)), (.faddr 75 1 (.t 1))⟩, ⟨(some (74, false)), (.load 76 1 false (.t 75))⟩, ⟨(some (74, false)), (.bin 77 .neq (.t 76) (.v (.k (.c (.int .i64 0)))))⟩, ⟨none, (.pick 78 (.t 74) (.v (.k (.c (.bool true)))) (.t 77))⟩]
theorem uf60r43 : type_of% @f60r43.eq_1 := id @f60r43.eq_1
def f60b44 : AQ := (.seq (.region f60r43) f60b42)
theorem uf60b44 (P ts os Q) : awl P f60b44 Q ts os = awl P (.seq (.region f60r43) f60b42) Q ts os := id rfl
def f60b45 : AQ := (.seq f60b44 f60b39)
theorem uf60b45 (P ts os Q) : awl P f60b45 Q ts os = awl P (.seq f60b44 f60b39) Q ts os := id rfl
def f60r46 : List AI := [⟨none, (.faddr 65 0 (.t 1))⟩, ⟨none, (.load 66 1 false (.t 65))⟩, ⟨none, (.call (some 67) 72 [(.t 66)])⟩, ⟨none, (.alloc 9 92 [(.list 0 (some true) []), (.int .i64 0)])⟩, ⟨none, (.store 2 (.t 9) (.t 67))⟩]
theorem uf60r46 : type_of% @f60r46.eq_1 := id @f60r46.eq_1
def f60b47 : AQ := (.seq (.region f60r46) f60b45)
theorem uf60b47 (P ts os Q) : awl P f60b47 Q ts os = awl P (.seq (.region f60r46) f60b45) Q ts os := id rfl
def f60r48 : List AI := [⟨none, (.mov 2 (.v (.k (.c (.int .i64 0)))))⟩, ⟨none, (.mov 3 (.v (.k (.c (.int .i64 1)))))⟩]
theorem uf60r48 : type_of% @f60r48.eq_1 := id @f60r48.eq_1
def f60b49 : AQ := (.seq (.region f60r48) .ret)
theorem uf60b49 (P ts os Q) : awl P f60b49 Q ts os = awl P (.seq (.region f60r48) .ret) Q ts os := id rfl
def f60r50 : List AI := [⟨none, (.load 61 3 true (.t 1))⟩, ⟨none, (.call (some 62) 71 [(.t 61)])⟩, ⟨none, (.extr 63 (.t 62) 0)⟩, ⟨none, (.extr 64 (.t 62) 1)⟩, ⟨none, (.mov 2 (.t 63))⟩, ⟨none, (.mov 3 (.t 64))⟩]
theorem uf60r50 : type_of% @f60r50.eq_1 := id @f60r50.eq_1
def f60b51 : AQ := (.seq (.region f60r50) .ret)
theorem uf60b51 (P ts os Q) : awl P f60b51 Q ts os = awl P (.seq (.region f60r50) .ret) Q ts os := id rfl
def f60b52 : AQ := (.cond (.t 47) f60b51 .skip)
theorem uf60b52 (P ts os Q) : awl P f60b52 Q ts os = awl P (.cond (.t 47) f60b51 .skip) Q ts os := id rfl
def f60r53 : List AI := [⟨none, (.faddr 48 0 (.t 1))⟩, ⟨none, (.load 49 1 false (.t 48))⟩, ⟨none, (.bin 50 .eql (.t 49) (.v (.k (.c (.int .i64 0)))))⟩, ⟨none, (.mov 51 (.t 50))⟩, ⟨(some (51, false)), (.faddr 52 0 (.t 1))⟩, ⟨(some (51, false)), (.load 53 1 false (.t 52))⟩, ⟨(some (51, false)), (.bin 54 .eql (.t 53) (.v (.k (.c (.int .i64 1)))))⟩, ⟨none, (.pick 55 (.t 51) (.v (.k (.c (.bool true)))) (.t 54))⟩, ⟨none, (.mov 56 (.t 55))⟩, ⟨(some (56, false)), (.faddr 57 0 (.t 1))⟩, ⟨(some (56, false)), (.load 58 1 false (.t 57))⟩, ⟨(some (56, false)), (.bin 59 .eql (.t 58) (.v (.k (.c (.int .i64 2)))))⟩, ⟨none, (.pick 60 (.t 56) (.v (.k (.c (.bool true)))) (.t 59))⟩, ⟨none, (.mov 47 (.t 60))⟩]
theorem uf60r53 : type_of% @f60r53.eq_1 := id @f60r53.eq_1
def f60b54 : AQ := (.seq (.region f60r53) f60b52)
theorem uf60b54 (P ts os Q) : awl P f60b54 Q ts os = awl P (.seq (.region f60r53) f60b52) Q ts os := id rfl
def f60b55 : AQ := (.cond (.t 38) f60b49 f60b54)
theorem uf60b55 (P ts os Q) : awl P f60b55 Q ts os = awl P (.cond (.t 38) f60b49 f60b54) Q ts os := id rfl
def f60r56 : List AI := [⟨none, (.faddr 39 0 (.t 1))⟩, ⟨none, (.load 40 1 false (.t 39))⟩, ⟨none, (.bin 41 .lss (.t 40) (.v (.k (.c (.int .i64 0)))))⟩, ⟨none, (.mov 42 (.t 41))⟩, ⟨(some (42, false)), (.faddr 43 0 (.t 1))⟩, ⟨(some (42, false)), (.load 44 1 false (.t 43))⟩, ⟨(some (42, false)), (.bin 45 .gtr (.t 44) (.v (.k (.c (.int .i64 13)))))⟩, ⟨none, (.pick 46 (.t 42) (.v (.k (.c (.bool true)))) (.t 45))⟩, ⟨none, (.mov 38 (.t 46))⟩]
theorem uf60r56 : type_of% @f60r56.eq_1 := id @f60r56.eq_1
def f60b57 : AQ := (.seq (.region f60r56) f60b55)
theorem uf60b57 (P ts os Q) : awl P f60b57 Q ts os = awl P (.seq (.region f60r56) f60b55) Q ts os := id rfl
def f60b58 : AQ := (.block 2 f60b57)
theorem uf60b58 (P ts os Q) : awl P f60b58 Q ts os = awl P (.block 2 f60b57) Q ts os := id rfl
def f60b59 : AQ := (.seq f60b58 f60b47)
theorem uf60b59 (P ts os Q) : awl P f60b59 Q ts os = awl P (.seq f60b58 f60b47) Q ts os := id rfl
def f60r60 : List AI := [⟨none, (.bin 37 .add (.t 20) (.v (.k (.c (.int .i64 1)))))⟩, ⟨none, (.mov 20 (.t 37))⟩]
theorem uf60r60 : type_of% @f60r60.eq_1 := id @f60r60.eq_1
def f60r61 : List AI := [⟨none, (.mov 33 (.t 4))⟩, ⟨none, (.mov 34 (.t 5))⟩, ⟨none, (.mov 35 (.t 7))⟩, ⟨none, (.iaddr 36 1 (.t 33) (.t 34))⟩, ⟨none, (.store 1 (.t 36) (.t 35))⟩]
theorem uf60r61 : type_of% @f60r61.eq_1 := id @f60r61.eq_1
def f60r62 : List AI := [⟨none, (.mov 32 (.t 8))⟩, ⟨none, (.mov 2 (.v (.k (.c (.int .i64 0)))))⟩, ⟨none, (.mov 3 (.t 32))⟩]
theorem uf60r62 : type_of% @f60r62.eq_1 := id @f60r62.eq_1
def f60b63 : AQ := (.seq (.region f60r62) .ret)
theorem uf60b63 (P ts os Q) : awl P f60b63 Q ts os = awl P (.seq (.region f60r62) .ret) Q ts os := id rfl
def f60b64 : AQ := (.cond (.t 31) f60b63 .skip)
theorem uf60b64 (P ts os Q) : awl P f60b64 Q ts os = awl P (.cond (.t 31) f60b63 .skip) Q ts os := id rfl
def f60r65 : List AI := [⟨none, (.mov 30 (.t 8))⟩, ⟨none, (.bin 31 .neq (.t 30) (.v (.k (.c (.int .i64 0)))))⟩]
theorem uf60r65 : type_of% @f60r65.eq_1 := id @f60r65.eq_1
def f60b66 : AQ := (.seq (.region f60r65) f60b64)
theorem uf60b66 (P ts os Q) : awl P f60b66 Q ts os = awl P (.seq (.region f60r65) f60b64) Q ts os := id rfl
def f60b67 : AQ := (.seq f60b66 (.region f60r61))
theorem uf60b67 (P ts os Q) : awl P f60b67 Q ts os = awl P (.seq f60b66 (.region f60r61)) Q ts os := id rfl
def f60r68 : List AI := [⟨none, (.load 26 3 true (.t 6))⟩, ⟨none, (.call (some 27) 60 [(.t 26)])⟩, ⟨none, (.mov 25 (.t 27))⟩, ⟨none, (.extr 28 (.t 25) 0)⟩, ⟨none, (.extr 29 (.t 25) 1)⟩, ⟨none, (.mov 7 (.t 28))⟩, ⟨none, (.mov 8 (.t 29))⟩]
theorem uf60r68 : type_of% @f60r68.eq_1 := id @f60r68.eq_1
def f60b69 : AQ := (.seq (.region f60r68) f60b67)
theorem uf60b69 (P ts os Q) : awl P f60b69 Q ts os = awl P (.seq (.region f60r68) f60b67) Q ts os := id rfl
def f60r70 : List AI := [⟨none, (.mov 22 (.t 20))⟩, ⟨none, (.iaddr 23 3 (.t 18) (.t 20))⟩, ⟨none, (.load 24 3 true (.t 23))⟩, ⟨none, (.alloc 6 41 [(.int .i64 0), (.int .i64 0), (.list 0 (some true) [])])⟩, ⟨none, (.mov 5 (.t 22))⟩, ⟨none, (.store 3 (.t 6) (.t 24))⟩]
theorem uf60r70 : type_of% @f60r70.eq_1 := id @f60r70.eq_1
def f60b71 : AQ := (.seq (.region f60r70) f60b69)
theorem uf60b71 (P ts os Q) : awl P f60b71 Q ts os = awl P (.seq (.region f60r70) f60b69) Q ts os := id rfl
def f60b72 : AQ := (.block 1 f60b71)
theorem uf60b72 (P ts os Q) : awl P f60b72 Q ts os = awl P (.block 1 f60b71) Q ts os := id rfl
def f60b73 : AQ := (.seq f60b72 (.region f60r60))
theorem uf60b73 (P ts os Q) : awl P f60b73 Q ts os = awl P (.seq f60b72 (.region f60r60)) Q ts os := id rfl
def f60b74 : AQ := (.cond (.t 21) .skip (.exit 0))
theorem uf60b74 (P ts os Q) : awl P f60b74 Q ts os = awl P (.cond (.t 21) .skip (.exit 0)) Q ts os := id rfl
def f60b75 : AQ := (.seq f60b74 f60b73)
theorem uf60b75 (P ts os Q) : awl P f60b75 Q ts os = awl P (.seq f60b74 f60b73) Q ts os := id rfl
def f60r76 : List AI := [⟨none, (.bin 21 .lss (.t 20) (.t 19))⟩]
theorem uf60r76 : type_of% @f60r76.eq_1 := id @f60r76.eq_1
def f60b77 : AQ := (.seq (.region f60r76) f60b75)
theorem uf60b77 (P ts os Q) : awl P f60b77 Q ts os = awl P (.seq (.region f60r76) f60b75) Q ts os := id rfl
def f60l78 : AQ := .loop [1, 4, 18, 19, 20] [1, 16] f60b77
theorem uf60l78 (P ts os Q) : awl P f60l78 Q ts os = awl P (.loop [1, 4, 18, 19, 20] [1, 16] f60b77) Q ts os := id rfl
def f60b79 : AQ := (.block 0 f60l78)
theorem uf60b79 (P ts os Q) : awl P f60b79 Q ts os = awl P (.block 0 f60l78) Q ts os := id rfl
def f60r80 : List AI := [⟨none, (.faddr 17 2 (.t 1))⟩, ⟨none, (.load 18 1 false (.t 17))⟩, ⟨none, (.len 19 (.t 18))⟩, ⟨none, (.mov 20 (.v (.k (.c (.int .i64 0)))))⟩]
theorem uf60r80 : type_of% @f60r80.eq_1 := id @f60r80.eq_1
def f60b81 : AQ := (.seq (.region f60r80) f60b79)
theorem uf60b81 (P ts os Q) : awl P f60b81 Q ts os = awl P (.seq (.region f60r80) f60b79) Q ts os := id rfl
def f60b82 : AQ := (.seq f60b81 f60b59)
theorem uf60b82 (P ts os Q) : awl P f60b82 Q ts os = awl P (.seq f60b81 f60b59) Q ts os := id rfl
def f60r83 : List AI := [⟨none, (.faddr 13 2 (.t 1))⟩, ⟨none, (.load 14 1 false (.t 13))⟩, ⟨none, (.len 15 (.t 14))⟩, ⟨none, (.mkslice 16 3 1 8 [(.int .i64 0)] (.t 15) (.t 15))⟩, ⟨none, (.mov 4 (.t 16))⟩]
theorem uf60r83 : type_of% @f60r83.eq_1 := id @f60r83.eq_1
def f60b84 : AQ := (.seq (.region f60r83) f60b82)
theorem uf60b84 (P ts os Q) : awl P f60b84 Q ts os = awl P (.seq (.region f60r83) f60b82) Q ts os := id rfl
def f60r85 : List AI := [⟨none, (.box 1 41 (.t 0))⟩, ⟨none, (.mov 2 (.v (.k (.c (.int .i64 0)))))⟩, ⟨none, (.mov 3 (.v (.k (.c (.int .i64 0)))))⟩]
theorem uf60r85 : type_of% @f60r85.eq_1 := id @f60r85.eq_1
def f60b86 : AQ := (.seq (.region f60r85) f60b84)
theorem uf60b86 (P ts os Q) : awl P f60b86 Q ts os = awl P (.seq (.region f60r85) f60b84) Q ts os := id rfl
def f60 : AQ := f60b86
theorem uf60 (P ts os Q) : awl P f60 Q ts os = awl P f60b86 Q ts os := id rfl
theorem hf60 : cFunc Try.prog 60 = some ⟨113, f60.erase, [(RX.t 2), (RX.t 3)]⟩ := by kernel_rfl
theorem okf60 : f60.ok = true := by kernel_rfl
def f62r1 : List AI := [⟨none, (.bin 24 .add (.t 17) (.v (.k (.c (.int .i64 1)))))⟩, ⟨none, (.mov 17 (.t 24))⟩]
theorem uf62r1 : type_of% @f62r1.eq_1 := id @f62r1.eq_1
def f62r2 : List AI := [⟨none, (.load 21 1 false (.t 2))⟩, ⟨none, (.load 22 3 true (.t 5))⟩, ⟨none, (.callv (some 23) (.t 21) [(.t 22)])⟩]
theorem uf62r2 : type_of% @f62r2.eq_1 := id @f62r2.eq_1
def f62r3 : List AI := [⟨none, (.iaddr 19 3 (.t 15) (.t 17))⟩, ⟨none, (.load 20 3 true (.t 19))⟩, ⟨none, (.alloc 5 41 [(.int .i64 0), (.int .i64 0), (.list 0 (some true) [])])⟩, ⟨none, (.store 3 (.t 5) (.t 20))⟩]
theorem uf62r3 : type_of% @f62r3.eq_1 := id @f62r3.eq_1
def f62b4 : AQ := (.seq (.region f62r3) (.region f62r2))
theorem uf62b4 (P ts os Q) : awl P f62b4 Q ts os = awl P (.seq (.region f62r3) (.region f62r2)) Q ts os := id rfl
def f62b5 : AQ := (.block 1 f62b4)
theorem uf62b5 (P ts os Q) : awl P f62b5 Q ts os = awl P (.block 1 f62b4) Q ts os := id rfl
def f62b6 : AQ := (.seq f62b5 (.region f62r1))
theorem uf62b6 (P ts os Q) : awl P f62b6 Q ts os = awl P (.seq f62b5 (.region f62r1)) Q ts os := id rfl
def f62b7 : AQ := (.cond (.t 18) .skip (.exit 0))
theorem uf62b7 (P ts os Q) : awl P f62b7 Q ts os = awl P (.cond (.t 18) .skip (.exit 0)) Q ts os := id rfl
def f62b8 : AQ := (.seq f62b7 f62b6)
theorem uf62b8 (P ts os Q) : awl P f62b8 Q ts os = awl P (.seq f62b7 f62b6) Q ts os := id rfl
def f62r9 : List AI := [⟨none, (.bin 18 .lss (.t 17) (.t 16))⟩]
theorem uf62r9 : type_of% @f62r9.eq_1 := id @f62r9.eq_1
def f62b10 : AQ := (.seq (.region f62r9) f62b8)
theorem uf62b10 (P ts os Q) : awl P f62b10 Q ts os = awl P (.seq (.region f62r9) f62b8) Q ts os := id rfl
def f62l11 : AQ := .loop [1, 2, 15, 16, 17] [1000, 1005, 1006] f62b10
theorem uf62l11 (P ts os Q) : awl P f62l11 Q ts os = awl P (.loop [1, 2, 15, 16, 17] [1000, 1005, 1006] f62b10) Q ts os := id rfl
def f62b12 : AQ := (.block 0 f62l11)
theorem uf62b12 (P ts os Q) : awl P f62b12 Q ts os = awl P (.block 0 f62l11) Q ts os := id rfl
def f62r13 : List AI := [⟨none, (.faddr 14 2 (.t 3))⟩, ⟨none, (.load 15 1 false (.t 14))⟩, ⟨none, (.len 16 (.t 15))⟩, ⟨none, (.mov 17 (.v (.k (.c (.int .i64 0)))))⟩]
theorem uf62r13 : type_of% @f62r13.eq_1 := id @f62r13.eq_1
def f62b14 : AQ := (.seq (.region f62r13) f62b12)
theorem uf62b14 (P ts os Q) : awl P f62b14 Q ts os = awl P (.seq (.region f62r13) f62b12) Q ts os := id rfl
def f62r15 : List AI := [⟨none, (.load 9 1 false (.t 1))⟩, ⟨none, (.faddr 10 1 (.t 3))⟩, ⟨none, (.load 11 1 false (.t 10))⟩, ⟨none, (.bslice 12 3 1 [(.int .i64 0)] 1 [(0, (.t 11))])⟩, ⟨none, (.append 13 3 1 8 (.t 9) (.t 12))⟩, ⟨none, (.store 1 (.t 1) (.t 13))⟩]
theorem uf62r15 : type_of% @f62r15.eq_1 := id @f62r15.eq_1
def f62b16 : AQ := (.cond (.t 8) (.region f62r15) .skip)
theorem uf62b16 (P ts os Q) : awl P f62b16 Q ts os = awl P (.cond (.t 8) (.region f62r15) .skip) Q ts os := id rfl
def f62r17 : List AI := [⟨none, (.faddr 6 0 (.t 3))⟩, ⟨none, (.load 7 1 false (.t 6))⟩, ⟨none, (.bin 8 .eql (.t 7) (.v (.k (.c (.int .i64 2)))))⟩]
theorem uf62r17 : type_of% @f62r17.eq_1 := id @f62r17.eq_1
def f62b18 : AQ := (.seq (.region f62r17) f62b16)
theorem uf62b18 (P ts os Q) : awl P f62b18 Q ts os = awl P (.seq (.region f62r17) f62b16) Q ts os := id rfl
def f62b19 : AQ := (.seq f62b18 f62b14)
theorem uf62b19 (P ts os Q) : awl P f62b19 Q ts os = awl P (.seq f62b18 f62b14) Q ts os := id rfl
def f62r20 : List AI := [⟨none, (.box 3 41 (.t 0))⟩]
theorem uf62r20 : type_of% @f62r20.eq_1 := id @f62r20.eq_1
def f62b21 : AQ := (.seq (.region f62r20) f62b19)
theorem uf62b21 (P ts os Q) : awl P f62b21 Q ts os = awl P (.seq (.region f62r20) f62b19) Q ts os := id rfl
def f62 : AQ := f62b21
theorem uf62 (P ts os Q) : awl P f62 Q ts os = awl P f62b21 Q ts os := id rfl
theorem hf62 : cFunc Try.prog 62 = some ⟨25, f62.erase, []⟩ := by kernel_rfl
theorem okf62 : f62.ok = true := by kernel_rfl
def f64r1 : List AI := [⟨none, (.build 92 [(.bool false), (.int .i64 0)] [])⟩, ⟨none, (.mov 93 (.t 8))⟩, ⟨none, (.call (some 94) 78 [(.t 93)])⟩, ⟨none, (.store 2 (.t 4) (.t 92))⟩, ⟨none, (.mov 5 (.t 94))⟩]
theorem uf64r1 : type_of% @f64r1.eq_1 := id @f64r1.eq_1
def f64b2 : AQ := (.seq (.region f64r1) .ret)
theorem uf64b2 (P ts os Q) : awl P f64b2 Q ts os = awl P (.seq (.region f64r1) .ret) Q ts os := id rfl
def f64r3 : List AI := [⟨none, (.load 91 2 true (.t 12))⟩, ⟨none, (.store 2 (.t 4) (.t 91))⟩, ⟨none, (.nilL 5 3 1)⟩]
theorem uf64r3 : type_of% @f64r3.eq_1 := id @f64r3.eq_1
def f64b4 : AQ := (.seq (.region f64r3) .ret)
theorem uf64b4 (P ts os Q) : awl P f64b4 Q ts os = awl P (.seq (.region f64r3) .ret) Q ts os := id rfl
def f64b5 : AQ := (.cond (.t 90) f64b4 .skip)
theorem uf64b5 (P ts os Q) : awl P f64b5 Q ts os = awl P (.cond (.t 90) f64b4 .skip) Q ts os := id rfl
def f64r6 : List AI := [⟨none, (.faddr 89 0 (.t 12))⟩, ⟨none, (.load 90 1 false (.t 89))⟩]
theorem uf64r6 : type_of% @f64r6.eq_1 := id @f64r6.eq_1
def f64b7 : AQ := (.seq (.region f64r6) f64b5)
theorem uf64b7 (P ts os Q) : awl P f64b7 Q ts os = awl P (.seq (.region f64r6) f64b5) Q ts os := id rfl
def f64r8 : List AI := [⟨none, (.faddr 85 0 (.t 3))⟩, ⟨none, (.load 86 1 false (.t 85))⟩, ⟨none, (.mov 87 (.t 7))⟩, ⟨none, (.call (some 88) 77 [(.t 86), (.t 87)])⟩, ⟨none, (.alloc 12 53 [(.bool false), (.int .i64 0)])⟩, ⟨none, (.store 2 (.t 12) (.t 88))⟩]
theorem uf64r8 : type_of% @f64r8.eq_1 := id @f64r8.eq_1
def f64b9 : AQ := (.seq (.region f64r8) f64b7)
theorem uf64b9 (P ts os Q) : awl P f64b9 Q ts os = awl P (.seq (.region f64r8) f64b7) Q ts os := id rfl
def f64b10 : AQ := (.seq f64b9 f64b2)
theorem uf64b10 (P ts os Q) : awl P f64b10 Q ts os = awl P (.seq f64b9 f64b2) Q ts os := id rfl
def f64r11o0 : AI := ⟨none, (.mov 77 (.t 7))⟩
theorem uf64r11o0 : f64r11o0 = ⟨none, (.mov 77 (.t 7))⟩ := id rfl
def f64r11o1 : AI := ⟨none, (.mov 78 (.t 11))⟩
theorem uf64r11o1 : f64r11o1 = ⟨none, (.mov 78 (.t 11))⟩ := id rfl
def f64r11o2 : AI := ⟨none, (.iaddr 79 2 (.t 77) (.t 78))⟩
theorem uf64r11o2 : f64r11o2 = ⟨none, (.iaddr 79 2 (.t 77) (.t 78))⟩ := id rfl
def f64r11o3 : AI := ⟨none, (.load 80 2 true (.t 79))⟩
theorem uf64r11o3 : f64r11o3 = ⟨none, (.load 80 2 true (.t 79))⟩ := id rfl
def f64r11o4 : AI := ⟨none, (.mov 81 (.t 8))⟩
theorem uf64r11o4 : f64r11o4 = ⟨none, (.mov 81 (.t 8))⟩ := id rfl
def f64r11o5 : AI := ⟨none, (.mov 82 (.t 11))⟩
theorem uf64r11o5 : f64r11o5 = ⟨none, (.mov 82 (.t 11))⟩ := id rfl
def f64r11o6 : AI := ⟨none, (.iaddr 83 1 (.t 81) (.t 82))⟩
theorem uf64r11o6 : f64r11o6 = ⟨none, (.iaddr 83 1 (.t 81) (.t 82))⟩ := id rfl
def f64r11o7 : AI := ⟨none, (.load 84 1 false (.t 83))⟩
theorem uf64r11o7 : f64r11o7 = ⟨none, (.load 84 1 false (.t 83))⟩ := id rfl
def f64r11o8 : AI := ⟨none, (.store 2 (.t 4) (.t 80))⟩
theorem uf64r11o8 : f64r11o8 = ⟨none, (.store 2 (.t 4) (.t 80))⟩ := id rfl
def f64r11o9 : AI := ⟨none, (.mov 5 (.t 84))⟩
theorem uf64r11o9 : f64r11o9 = ⟨none, (.mov 5 (.t 84))⟩ := id rfl
def f64r11 : List AI := [f64r11o0, f64r11o1, f64r11o2, f64r11o3, f64r11o4, f64r11o5, f64r11o6, f64r11o7, f64r11o8, f64r11o9]
theorem utf64r11 : treeOf f64r11 [[], [], [0, 1], [2], [], [], [4, 5], [6], [3, 0, 1, 2, 3], [7, 8, 0, 1, 2, 3, 4, 5, 6, 7, 8]] = (.one f64r11o0 (.one f64r11o1 (.one f64r11o2 (.one f64r11o3 (.alt (.one f64r11o4 (.alt (.one f64r11o5 (.alt (.one f64r11o6 (.alt (.one f64r11o7 (.one f64r11o8 (.one f64r11o9 .done))) (.alt (.one f64r11o8 (.one f64r11o7 (.one f64r11o9 .done))) .top))) (.alt (.one f64r11o8 (.one f64r11o6 (.one f64r11o7 (.one f64r11o9 .done)))) .top))) (.alt (.one f64r11o8 (.one f64r11o5 (.one f64r11o6 (.one f64r11o7 (.one f64r11o9 .done))))) .top))) (.alt (.one f64r11o5 (.alt (.one f64r11o4 (.alt (.one f64r11o6 (.alt (.one f64r11o7 (.one f64r11o8 (.one f64r11o9 .done))) (.alt (.one f64r11o8 (.one f64r11o7 (.one f64r11o9 .done))) .top))) (.alt (.one f64r11o8 (.one f64r11o6 (.one f64r11o7 (.one f64r11o9 .done)))) .top))) (.alt (.one f64r11o8 (.one f64r11o4 (.one f64r11o6 (.one f64r11o7 (.one f64r11o9 .done))))) .top))) (.alt (.one f64r11o8 (.one f64r11o4 (.one f64r11o5 (.one f64r11o6 (.one f64r11o7 (.one f64r11o9 .done)))))) .top))))))) := by kernel_rfl
def f64b12 : AQ := (.seq (.tree f64r11 [[], [], [0, 1], [2], [], [], [4, 5], [6], [3, 0, 1, 2, 3], [7, 8, 0, 1, 2, 3, 4, 5, 6, 7, 8]]) (.keep [4, 5] [4, 5, 26, 33, 37, 41, 57, 88, 94, 27000, 27001, 27002, 58000, 58001, 58002, 89000, 89001, 89002, 95000, 95001, 95002] .ret))
theorem uf64b12 (P ts os Q) : awl P f64b12 Q ts os = awl P (.seq (.tree f64r11 [[], [], [0, 1], [2], [], [], [4, 5], [6], [3, 0, 1, 2, 3], [7, 8, 0, 1, 2, 3, 4, 5, 6, 7, 8]]) (.keep [4, 5] [4, 5, 26, 33, 37, 41, 57, 88, 94, 27000, 27001, 27002, 58000, 58001, 58002, 89000, 89001, 89002, 95000, 95001, 95002] .ret)) Q ts os := id rfl
def f64r13 : List AI := [⟨none, (.mov 72 (.t 7))⟩, ⟨none, (.iaddr 73 2 (.t 72) (.v (.k (.c (.int .i64 0)))))⟩, ⟨none, (.faddr 74 1 (.t 73))⟩, ⟨none, (.load 75 1 false (.t 74))⟩, ⟨none, (.bin 76 .sub (.v (.k (.c (.int .i64 2)))) (.t 75))⟩, ⟨none, (.mov 11 (.t 76))⟩]
theorem uf64r13 : type_of% @f64r13.eq_1 := id @f64r13.eq_1
def f64b14 : AQ := (.seq (.region f64r13) f64b12)
theorem uf64b14 (P ts os Q) : awl P f64b14 Q ts os = awl P (.seq (.region f64r13) f64b12) Q ts os := id rfl
def f64b15 : AQ := (.cond (.t 71) f64b14 .skip)
theorem uf64b15 (P ts os Q) : awl P f64b15 Q ts os = awl P (.cond (.t 71) f64b14 .skip) Q ts os := id rfl
def f64r16 : List AI := [⟨none, (.faddr 63 0 (.t 3))⟩, ⟨none, (.load 64 1 false (.t 63))⟩, ⟨none, (.bin 65 .eql (.t 64) (.v (.k (.c (.int .i64 6)))))⟩, ⟨none, (.mov 66 (.t 65))⟩, ⟨(some (66, true)), (.mov 67 (.t 7))⟩, ⟨(some (66, true)), (.iaddr 68 2 (.t 67) (.v (.k (.c (.int .i64 0)))))⟩, ⟨(some (66, true)), (.faddr 69 0 (.t 68))⟩, ⟨(some (66, true)), (.load 70 1 false (.t 69))⟩, ⟨none, (.pick 71 (.t 66) (.t 70) (.v (.k (.c (.bool false)))))⟩]
theorem uf64r16 : type_of% @f64r16.eq_1 := id @f64r16.eq_1
def f64b17 : AQ := (.seq (.region f64r16) f64b15)
theorem uf64b17 (P ts os Q) : awl P f64b17 Q ts os = awl P (.seq (.region f64r16) f64b15) Q ts os := id rfl
def f64b18 : AQ := (.seq f64b17 f64b10)
theorem uf64b18 (P ts os Q) : awl P f64b18 Q ts os = awl P (.seq f64b17 f64b10) Q ts os := id rfl
def f64r19 : List AI := [⟨none, (.bin 62 .add (.t 45) (.v (.k (.c (.int .i64 1)))))⟩, ⟨none, (.mov 45 (.t 62))⟩]
theorem uf64r19 : type_of% @f64r19.eq_1 := id @f64r19.eq_1
def f64r20 : List AI := [⟨none, (.mov 51 (.t 7))⟩, ⟨none, (.mov 52 (.t 9))⟩, ⟨none, (.mov 53 (.t 8))⟩, ⟨none, (.mov 54 (.t 9))⟩, ⟨none, (.load 55 1 true (.t 2))⟩, ⟨none, (.load 56 3 true (.t 10))⟩, ⟨none, (.call (some 57) 64 [(.t 55), (.t 56)])⟩, ⟨none, (.mov 50 (.t 57))⟩, ⟨none, (.extr 58 (.t 50) 0)⟩, ⟨none, (.extr 59 (.t 50) 1)⟩, ⟨none, (.iaddr 60 2 (.t 51) (.t 52))⟩, ⟨none, (.store 2 (.t 60) (.t 58))⟩, ⟨none, (.iaddr 61 1 (.t 53) (.t 54))⟩, ⟨none, (.store 1 (.t 61) (.t 59))⟩]
theorem uf64r20 : type_of% @f64r20.eq_1 := id @f64r20.eq_1
def f64r21 : List AI := [⟨none, (.mov 47 (.t 45))⟩, ⟨none, (.iaddr 48 3 (.t 43) (.t 45))⟩, ⟨none, (.load 49 3 true (.t 48))⟩, ⟨none, (.alloc 10 41 [(.int .i64 0), (.int .i64 0), (.list 0 (some true) [])])⟩, ⟨none, (.mov 9 (.t 47))⟩, ⟨none, (.store 3 (.t 10) (.t 49))⟩]
theorem uf64r21 : type_of% @f64r21.eq_1 := id @f64r21.eq_1
def f64b22 : AQ := (.seq (.region f64r21) (.region f64r20))
theorem uf64b22 (P ts os Q) : awl P f64b22 Q ts os = awl P (.seq (.region f64r21) (.region f64r20)) Q ts os := id rfl
def f64b23 : AQ := (.block 2 f64b22)
theorem uf64b23 (P ts os Q) : awl P f64b23 Q ts os = awl P (.block 2 f64b22) Q ts os := id rfl
def f64b24 : AQ := (.seq f64b23 (.region f64r19))
theorem uf64b24 (P ts os Q) : awl P f64b24 Q ts os = awl P (.seq f64b23 (.region f64r19)) Q ts os := id rfl
def f64b25 : AQ := (.cond (.t 46) .skip (.exit 1))
theorem uf64b25 (P ts os Q) : awl P f64b25 Q ts os = awl P (.cond (.t 46) .skip (.exit 1)) Q ts os := id rfl
def f64b26 : AQ := (.seq f64b25 f64b24)
theorem uf64b26 (P ts os Q) : awl P f64b26 Q ts os = awl P (.seq f64b25 f64b24) Q ts os := id rfl
def f64r27 : List AI := [⟨none, (.bin 46 .lss (.t 45) (.t 44))⟩]
theorem uf64r27 : type_of% @f64r27.eq_1 := id @f64r27.eq_1
def f64b28 : AQ := (.seq (.region f64r27) f64b26)
theorem uf64b28 (P ts os Q) : awl P f64b28 Q ts os = awl P (.seq (.region f64r27) f64b26) Q ts os := id rfl
def f64l29 : AQ := .loop [2, 3, 4, 7, 8, 43, 44, 45] [2, 3, 4, 26, 37, 41, 57, 88, 27000, 27001, 27002, 58000, 58001, 58002, 89000, 89001, 89002] f64b28
theorem uf64l29 (P ts os Q) : awl P f64l29 Q ts os = awl P (.loop [2, 3, 4, 7, 8, 43, 44, 45] [2, 3, 4, 26, 37, 41, 57, 88, 27000, 27001, 27002, 58000, 58001, 58002, 89000, 89001, 89002] f64b28) Q ts os := id rfl
def f64b30 : AQ := (.block 1 f64l29)
theorem uf64b30 (P ts os Q) : awl P f64b30 Q ts os = awl P (.block 1 f64l29) Q ts os := id rfl
def f64r31 : List AI := [⟨none, (.faddr 42 2 (.t 3))⟩, ⟨none, (.load 43 1 false (.t 42))⟩, ⟨none, (.len 44 (.t 43))⟩, ⟨none, (.mov 45 (.v (.k (.c (.int .i64 0)))))⟩]
theorem uf64r31 : type_of% @f64r31.eq_1 := id @f64r31.eq_1
def f64b32 : AQ := (.seq (.region f64r31) f64b30)
theorem uf64b32 (P ts os Q) : awl P f64b32 Q ts os = awl P (.seq (.region f64r31) f64b30) Q ts os := id rfl
def f64b33 : AQ := (.seq f64b32 (.frz 41 (.frz 37 f64b18)))
theorem uf64b33 (P ts os Q) : awl P f64b33 Q ts os = awl P (.seq f64b32 (.frz 41 (.frz 37 f64b18))) Q ts os := id rfl
def f64r34 : List AI := [⟨none, (.faddr 38 2 (.t 3))⟩, ⟨none, (.load 39 1 false (.t 38))⟩, ⟨none, (.len 40 (.t 39))⟩, ⟨none, (.mkslice 41 36 1 24 [(.list 0 (some true) [])] (.t 40) (.t 40))⟩, ⟨none, (.mov 8 (.t 41))⟩]
theorem uf64r34 : type_of% @f64r34.eq_1 := id @f64r34.eq_1
def f64b35 : AQ := (.seq (.region f64r34) f64b33)
theorem uf64b35 (P ts os Q) : awl P f64b35 Q ts os = awl P (.seq (.region f64r34) f64b33) Q ts os := id rfl
def f64r36 : List AI := [⟨none, (.faddr 34 2 (.t 3))⟩, ⟨none, (.load 35 1 false (.t 34))⟩, ⟨none, (.len 36 (.t 35))⟩, ⟨none, (.mkslice 37 53 2 16 [(.bool false), (.int .i64 0)] (.t 36) (.t 36))⟩, ⟨none, (.mov 7 (.t 37))⟩]
theorem uf64r36 : type_of% @f64r36.eq_1 := id @f64r36.eq_1
def f64b37 : AQ := (.seq (.region f64r36) f64b35)
theorem uf64b37 (P ts os Q) : awl P f64b37 Q ts os = awl P (.seq (.region f64r36) f64b35) Q ts os := id rfl
def f64r38 : List AI := [⟨none, (.faddr 18 1 (.t 3))⟩, ⟨none, (.load 19 1 false (.t 18))⟩, ⟨none, (.build 20 [(.bool false), (.int .i64 0)] [(0, (1, (.v (.k (.c (.bool true)))))), (1, (1, (.t 19)))])⟩, ⟨none, (.store 2 (.t 4) (.t 20))⟩, ⟨none, (.nilL 5 3 1)⟩]
theorem uf64r38 : type_of% @f64r38.eq_1 := id @f64r38.eq_1
def f64b39 : AQ := (.seq (.region f64r38) .ret)
theorem uf64b39 (P ts os Q) : awl P f64b39 Q ts os = awl P (.seq (.region f64r38) .ret) Q ts os := id rfl
def f64r40o0 : AI := ⟨none, (.build 30 [(.bool false), (.int .i64 0)] [])⟩
theorem uf64r40o0 : f64r40o0 = ⟨none, (.build 30 [(.bool false), (.int .i64 0)] [])⟩ := id rfl
def f64r40o1 : AI := ⟨none, (.faddr 31 1 (.t 3))⟩
theorem uf64r40o1 : f64r40o1 = ⟨none, (.faddr 31 1 (.t 3))⟩ := id rfl
def f64r40o2 : AI := ⟨none, (.load 32 1 false (.t 31))⟩
theorem uf64r40o2 : f64r40o2 = ⟨none, (.load 32 1 false (.t 31))⟩ := id rfl
def f64r40o3 : AI := ⟨none, (.bslice 33 3 1 [(.int .i64 0)] 1 [(0, (.t 32))])⟩
theorem uf64r40o3 : f64r40o3 = ⟨none, (.bslice 33 3 1 [(.int .i64 0)] 1 [(0, (.t 32))])⟩ := id rfl
def f64r40o4 : AI := ⟨none, (.store 2 (.t 4) (.t 30))⟩
theorem uf64r40o4 : f64r40o4 = ⟨none, (.store 2 (.t 4) (.t 30))⟩ := id rfl
def f64r40o5 : AI := ⟨none, (.mov 5 (.t 33))⟩
theorem uf64r40o5 : f64r40o5 = ⟨none, (.mov 5 (.t 33))⟩ := id rfl
def f64r40 : List AI := [f64r40o0, f64r40o1, f64r40o2, f64r40o3, f64r40o4, f64r40o5]
theorem utf64r40 : treeOf f64r40 [[], [], [1], [2], [0, 0], [3, 4, 0, 1, 2, 3, 4]] = (.one f64r40o0 (.alt (.one f64r40o1 (.alt (.one f64r40o2 (.alt (.one f64r40o3 (.one f64r40o4 (.one f64r40o5 .done))) (.alt (.one f64r40o4 (.one f64r40o3 (.one f64r40o5 .done))) .top))) (.alt (.one f64r40o4 (.one f64r40o2 (.one f64r40o3 (.one f64r40o5 .done)))) .top))) (.alt (.one f64r40o4 (.one f64r40o1 (.one f64r40o2 (.one f64r40o3 (.one f64r40o5 .done))))) .top))) := by kernel_rfl
def f64b41 : AQ := (.seq (.tree f64r40 [[], [], [1], [2], [0, 0], [3, 4, 0, 1, 2, 3, 4]]) (.keep [4, 5] [4, 5, 26, 33, 37, 41, 57, 88, 94, 27000, 27001, 27002, 58000, 58001, 58002, 89000, 89001, 89002, 95000, 95001, 95002] .ret))
theorem uf64b41 (P ts os Q) : awl P f64b41 Q ts os = awl P (.seq (.tree f64r40 [[], [], [1], [2], [0, 0], [3, 4, 0, 1, 2, 3, 4]]) (.keep [4, 5] [4, 5, 26, 33, 37, 41, 57, 88, 94, 27000, 27001, 27002, 58000, 58001, 58002, 89000, 89001, 89002, 95000, 95001, 95002] .ret)) Q ts os := id rfl
def f64r42 : List AI := [⟨none, (.load 29 2 true (.t 6))⟩, ⟨none, (.store 2 (.t 4) (.t 29))⟩, ⟨none, (.nilL 5 3 1)⟩]
theorem uf64r42 : type_of% @f64r42.eq_1 := id @f64r42.eq_1
def f64b43 : AQ := (.seq (.region f64r42) .ret)
theorem uf64b43 (P ts os Q) : awl P f64b43 Q ts os = awl P (.seq (.region f64r42) .ret) Q ts os := id rfl
def f64b44 : AQ := (.cond (.t 28) f64b43 .skip)
theorem uf64b44 (P ts os Q) : awl P f64b44 Q ts os = awl P (.cond (.t 28) f64b43 .skip) Q ts os := id rfl
def f64r45 : List AI := [⟨none, (.faddr 27 0 (.t 6))⟩, ⟨none, (.load 28 1 false (.t 27))⟩]
theorem uf64r45 : type_of% @f64r45.eq_1 := id @f64r45.eq_1
def f64b46 : AQ := (.seq (.region f64r45) f64b44)
theorem uf64b46 (P ts os Q) : awl P f64b46 Q ts os = awl P (.seq (.region f64r45) f64b44) Q ts os := id rfl
def f64r47 : List AI := [⟨none, (.load 23 1 true (.t 2))⟩, ⟨none, (.faddr 24 1 (.t 3))⟩, ⟨none, (.load 25 1 false (.t 24))⟩, ⟨none, (.call (some 26) 76 [(.t 23), (.t 25)])⟩, ⟨none, (.alloc 6 53 [(.bool false), (.int .i64 0)])⟩, ⟨none, (.store 2 (.t 6) (.t 26))⟩]
theorem uf64r47 : type_of% @f64r47.eq_1 := id @f64r47.eq_1
def f64b48 : AQ := (.seq (.region f64r47) f64b46)
theorem uf64b48 (P ts os Q) : awl P f64b48 Q ts os = awl P (.seq (.region f64r47) f64b46) Q ts os := id rfl
def f64b49 : AQ := (.seq f64b48 f64b41)
theorem uf64b49 (P ts os Q) : awl P f64b49 Q ts os = awl P (.seq f64b48 f64b41) Q ts os := id rfl
def f64b50 : AQ := (.cond (.t 21) f64b49 .skip)
theorem uf64b50 (P ts os Q) : awl P f64b50 Q ts os = awl P (.cond (.t 21) f64b49 .skip) Q ts os := id rfl
def f64r51 : List AI := [⟨none, (.bin 22 .eql (.t 14) (.v (.k (.c (.int .i64 2)))))⟩, ⟨none, (.mov 21 (.t 22))⟩]
theorem uf64r51 : type_of% @f64r51.eq_1 := id @f64r51.eq_1
def f64b52 : AQ := (.seq (.region f64r51) f64b50)
theorem uf64b52 (P ts os Q) : awl P f64b52 Q ts os = awl P (.seq (.region f64r51) f64b50) Q ts os := id rfl
def f64b53 : AQ := (.cond (.t 15) f64b39 f64b52)
theorem uf64b53 (P ts os Q) : awl P f64b53 Q ts os = awl P (.cond (.t 15) f64b39 f64b52) Q ts os := id rfl
def f64r54 : List AI := [⟨none, (.bin 17 .eql (.t 14) (.v (.k (.c (.int .i64 1)))))⟩, ⟨none, (.mov 15 (.t 17))⟩]
theorem uf64r54 : type_of% @f64r54.eq_1 := id @f64r54.eq_1
def f64b55 : AQ := (.cond (.t 15) .skip (.region f64r54))
theorem uf64b55 (P ts os Q) : awl P f64b55 Q ts os = awl P (.cond (.t 15) .skip (.region f64r54)) Q ts os := id rfl
def f64r56 : List AI := [⟨none, (.bin 16 .eql (.t 14) (.v (.k (.c (.int .i64 0)))))⟩, ⟨none, (.mov 15 (.t 16))⟩]
theorem uf64r56 : type_of% @f64r56.eq_1 := id @f64r56.eq_1
def f64b57 : AQ := (.seq (.region f64r56) f64b55)
theorem uf64b57 (P ts os Q) : awl P f64b57 Q ts os = awl P (.seq (.region f64r56) f64b55) Q ts os := id rfl
def f64b58 : AQ := (.seq f64b57 f64b53)
theorem uf64b58 (P ts os Q) : awl P f64b58 Q ts os = awl P (.seq f64b57 f64b53) Q ts os := id rfl
def f64b59 : AQ := (.block 0 f64b58)
theorem uf64b59 (P ts os Q) : awl P f64b59 Q ts os = awl P (.block 0 f64b58) Q ts os := id rfl
def f64r60 : List AI := [⟨none, (.faddr 13 0 (.t 3))⟩, ⟨none, (.load 14 1 false (.t 13))⟩]
theorem uf64r60 : type_of% @f64r60.eq_1 := id @f64r60.eq_1
def f64b61 : AQ := (.seq (.region f64r60) f64b59)
theorem uf64b61 (P ts os Q) : awl P f64b61 Q ts os = awl P (.seq (.region f64r60) f64b59) Q ts os := id rfl
def f64b62 : AQ := (.seq f64b61 f64b37)
theorem uf64b62 (P ts os Q) : awl P f64b62 Q ts os = awl P (.seq f64b61 f64b37) Q ts os := id rfl
def f64r63 : List AI := [⟨none, (.box 2 83 (.t 0))⟩, ⟨none, (.box 3 41 (.t 1))⟩, ⟨none, (.alloc 4 53 [(.bool false), (.int .i64 0)])⟩, ⟨none, (.nilL 5 3 1)⟩]
theorem uf64r63 : type_of% @f64r63.eq_1 := id @f64r63.eq_1
def f64b64 : AQ := (.seq (.region f64r63) f64b62)
theorem uf64b64 (P ts os Q) : awl P f64b64 Q ts os = awl P (.seq (.region f64r63) f64b62) Q ts os := id rfl
def f64 : AQ := f64b64
theorem uf64 (P ts os Q) : awl P f64 Q ts os = awl P f64b64 Q ts os := id rfl
theorem hf64 : cFunc Try.prog 64 = some ⟨95, f64.erase, [(RX.cell 4 2 true), (RX.t 5)]⟩ := by kernel_rfl
theorem okf64 : f64.ok = true := by kernel_rfl
def f71r1 : List AI := [⟨none, (.mov 38 (.t 4))⟩, ⟨none, (.mov 2 (.t 38))⟩, ⟨none, (.mov 3 (.v (.k (.c (.int .i64 0)))))⟩]
theorem uf71r1 : type_of% @f71r1.eq_1 := id @f71r1.eq_1
def f71b2 : AQ := (.seq (.region f71r1) .ret)
theorem uf71b2 (P ts os Q) : awl P f71b2 Q ts os = awl P (.seq (.region f71r1) .ret) Q ts os := id rfl
def f71r3 : List AI := [⟨none, (.mov 2 (.v (.k (.c (.int .i64 0)))))⟩, ⟨none, (.mov 3 (.v (.k (.c (.int .i64 10)))))⟩]
theorem uf71r3 : type_of% @f71r3.eq_1 := id @f71r3.eq_1
def f71b4 : AQ := (.seq (.region f71r3) .ret)
theorem uf71b4 (P ts os Q) : awl P f71b4 Q ts os = awl P (.seq (.region f71r3) .ret) Q ts os := id rfl
def f71b5 : AQ := (.cond (.t 37) f71b4 .skip)
theorem uf71b5 (P ts os Q) : awl P f71b5 Q ts os = awl P (.cond (.t 37) f71b4 .skip) Q ts os := id rfl
def f71r6 : List AI := [⟨none, (.mov 36 (.t 5))⟩, ⟨none, (.un 37 .not (.t 36))⟩]
theorem uf71r6 : type_of% @f71r6.eq_1 := id @f71r6.eq_1
def f71b7 : AQ := (.seq (.region f71r6) f71b5)
theorem uf71b7 (P ts os Q) : awl P f71b7 Q ts os = awl P (.seq (.region f71r6) f71b5) Q ts os := id rfl
def f71b8 : AQ := (.seq f71b7 f71b2)
theorem uf71b8 (P ts os Q) : awl P f71b8 Q ts os = awl P (.seq f71b7 f71b2) Q ts os := id rfl
def f71r9 : List AI := [⟨none, (.faddr 31 1 (.t 1))⟩, ⟨none, (.load 32 1 false (.t 31))⟩, ⟨none, (.call (some 33) 33 [(.t 32)])⟩, ⟨none, (.mov 30 (.t 33))⟩, ⟨none, (.extr 34 (.t 30) 0)⟩, ⟨none, (.extr 35 (.t 30) 1)⟩, ⟨none, (.mov 4 (.t 34))⟩, ⟨none, (.mov 5 (.t 35))⟩]
theorem uf71r9 : type_of% @f71r9.eq_1 := id @f71r9.eq_1
def f71b10 : AQ := (.seq (.region f71r9) f71b8)
theorem uf71b10 (P ts os Q) : awl P f71b10 Q ts os = awl P (.seq (.region f71r9) f71b8) Q ts os := id rfl
def f71r11 : List AI := [⟨none, (.mov 2 (.v (.k (.c (.int .i64 0)))))⟩, ⟨none, (.mov 3 (.v (.k (.c (.int .i64 0)))))⟩]
theorem uf71r11 : type_of% @f71r11.eq_1 := id @f71r11.eq_1
def f71b12 : AQ := (.seq (.region f71r11) .ret)
theorem uf71b12 (P ts os Q) : awl P f71b12 Q ts os = awl P (.seq (.region f71r11) .ret) Q ts os := id rfl
def f71r13 : List AI := [⟨none, (.mov 2 (.v (.k (.c (.int .i64 0)))))⟩, ⟨none, (.mov 3 (.v (.k (.c (.int .i64 3)))))⟩]
theorem uf71r13 : type_of% @f71r13.eq_1 := id @f71r13.eq_1
def f71b14 : AQ := (.seq (.region f71r13) .ret)
theorem uf71b14 (P ts os Q) : awl P f71b14 Q ts os = awl P (.seq (.region f71r13) .ret) Q ts os := id rfl
def f71b15 : AQ := (.cond (.t 19) f71b14 .skip)
theorem uf71b15 (P ts os Q) : awl P f71b15 Q ts os = awl P (.cond (.t 19) f71b14 .skip) Q ts os := id rfl
def f71r16 : List AI := [⟨none, (.faddr 14 1 (.t 1))⟩, ⟨none, (.load 15 1 false (.t 14))⟩, ⟨none, (.call (some 16) 93 [(.t 15)])⟩, ⟨none, (.faddr 17 1 (.t 1))⟩, ⟨none, (.load 18 1 false (.t 17))⟩, ⟨none, (.bin 19 .neq (.t 16) (.t 18))⟩]
theorem uf71r16 : type_of% @f71r16.eq_1 := id @f71r16.eq_1
def f71b17 : AQ := (.seq (.draw f71r16 [[], [0], [1], [], [3], [2, 4]]) f71b15)
theorem uf71b17 (P ts os Q) : awl P f71b17 Q ts os = awl P (.seq (.draw f71r16 [[], [0], [1], [], [3], [2, 4]]) f71b15) Q ts os := id rfl
def f71b18 : AQ := (.seq f71b17 f71b12)
theorem uf71b18 (P ts os Q) : awl P f71b18 Q ts os = awl P (.seq f71b17 f71b12) Q ts os := id rfl
def f71r19 : List AI := [⟨none, (.mov 2 (.v (.k (.c (.int .i64 1)))))⟩, ⟨none, (.mov 3 (.v (.k (.c (.int .i64 0)))))⟩]
theorem uf71r19 : type_of% @f71r19.eq_1 := id @f71r19.eq_1
def f71b20 : AQ := (.seq (.region f71r19) .ret)
theorem uf71b20 (P ts os Q) : awl P f71b20 Q ts os = awl P (.seq (.region f71r19) .ret) Q ts os := id rfl
def f71r21 : List AI := [⟨none, (.mov 2 (.v (.k (.c (.int .i64 0)))))⟩, ⟨none, (.mov 3 (.v (.k (.c (.int .i64 3)))))⟩]
theorem uf71r21 : type_of% @f71r21.eq_1 := id @f71r21.eq_1
def f71b22 : AQ := (.seq (.region f71r21) .ret)
theorem uf71b22 (P ts os Q) : awl P f71b22 Q ts os = awl P (.seq (.region f71r21) .ret) Q ts os := id rfl
def f71b23 : AQ := (.cond (.t 29) f71b22 .skip)
theorem uf71b23 (P ts os Q) : awl P f71b23 Q ts os = awl P (.cond (.t 29) f71b22 .skip) Q ts os := id rfl
def f71r24 : List AI := [⟨none, (.faddr 22 1 (.t 1))⟩, ⟨none, (.load 23 1 false (.t 22))⟩, ⟨none, (.bin 24 .lss (.t 23) (.v (.k (.c (.int .i64 0)))))⟩, ⟨none, (.mov 25 (.t 24))⟩, ⟨(some (25, false)), (.faddr 26 1 (.t 1))⟩, ⟨(some (25, false)), (.load 27 1 false (.t 26))⟩, ⟨(some (25, false)), (.bin 28 .gtr (.t 27) (.v (.k (.c (.int .i64 1)))))⟩, ⟨none, (.pick 29 (.t 25) (.v (.k (.c (.bool true)))) (.t 28))⟩]
theorem uf71r24 : type_of% @f71r24.eq_1 := id @f71r24.eq_1
def f71b25 : AQ := (.seq (.region f71r24) f71b23)
theorem uf71b25 (P ts os Q) : awl P f71b25 Q ts os = awl P (.seq (.region f71r24) f71b23) Q ts os := id rfl
def f71b26 : AQ := (.seq f71b25 f71b20)
theorem uf71b26 (P ts os Q) : awl P f71b26 Q ts os = awl P (.seq f71b25 f71b20) Q ts os := id rfl
def f71b27 : AQ := (.cond (.t 20) f71b26 .skip)
theorem uf71b27 (P ts os Q) : awl P f71b27 Q ts os = awl P (.cond (.t 20) f71b26 .skip) Q ts os := id rfl
def f71r28 : List AI := [⟨none, (.bin 21 .eql (.t 11) (.v (.k (.c (.int .i64 1)))))⟩, ⟨none, (.mov 20 (.t 21))⟩]
theorem uf71r28 : type_of% @f71r28.eq_1 := id @f71r28.eq_1
def f71b29 : AQ := (.seq (.region f71r28) f71b27)
theorem uf71b29 (P ts os Q) : awl P f71b29 Q ts os = awl P (.seq (.region f71r28) f71b27) Q ts os := id rfl
def f71b30 : AQ := (.cond (.t 12) f71b18 f71b29)
theorem uf71b30 (P ts os Q) : awl P f71b30 Q ts os = awl P (.cond (.t 12) f71b18 f71b29) Q ts os := id rfl
def f71r31 : List AI := [⟨none, (.bin 13 .eql (.t 11) (.v (.k (.c (.int .i64 0)))))⟩, ⟨none, (.mov 12 (.t 13))⟩]
theorem uf71r31 : type_of% @f71r31.eq_1 := id @f71r31.eq_1
def f71b32 : AQ := (.seq (.region f71r31) f71b30)
theorem uf71b32 (P ts os Q) : awl P f71b32 Q ts os = awl P (.seq (.region f71r31) f71b30) Q ts os := id rfl
def f71b33 : AQ := (.block 0 f71b32)
theorem uf71b33 (P ts os Q) : awl P f71b33 Q ts os = awl P (.block 0 f71b32) Q ts os := id rfl
def f71r34 : List AI := [⟨none, (.faddr 10 0 (.t 1))⟩, ⟨none, (.load 11 1 false (.t 10))⟩]
theorem uf71r34 : type_of% @f71r34.eq_1 := id @f71r34.eq_1
def f71b35 : AQ := (.seq (.region f71r34) f71b33)
theorem uf71b35 (P ts os Q) : awl P f71b35 Q ts os = awl P (.seq (.region f71r34) f71b33) Q ts os := id rfl
def f71b36 : AQ := (.seq f71b35 f71b10)
theorem uf71b36 (P ts os Q) : awl P f71b36 Q ts os = awl P (.seq f71b35 f71b10) Q ts os := id rfl
def f71r37 : List AI := [⟨none, (.mov 2 (.v (.k (.c (.int .i64 0)))))⟩, ⟨none, (.mov 3 (.v (.k (.c (.int .i64 2)))))⟩]
theorem uf71r37 : type_of% @f71r37.eq_1 := id @f71r37.eq_1
def f71b38 : AQ := (.seq (.region f71r37) .ret)
theorem uf71b38 (P ts os Q) : awl P f71b38 Q ts os = awl P (.seq (.region f71r37) .ret) Q ts os := id rfl
def f71b39 : AQ := (.cond (.t 9) f71b38 .skip)
theorem uf71b39 (P ts os Q) : awl P f71b39 Q ts os = awl P (.cond (.t 9) f71b38 .skip) Q ts os := id rfl
def f71r40 : List AI := [⟨none, (.faddr 6 2 (.t 1))⟩, ⟨none, (.load 7 1 false (.t 6))⟩, ⟨none, (.len 8 (.t 7))⟩, ⟨none, (.bin 9 .gtr (.t 8) (.v (.k (.c (.int .i64 0)))))⟩]
theorem uf71r40 : type_of% @f71r40.eq_1 := id @f71r40.eq_1
def f71b41 : AQ := (.seq (.region f71r40) f71b39)
theorem uf71b41 (P ts os Q) : awl P f71b41 Q ts os = awl P (.seq (.region f71r40) f71b39) Q ts os := id rfl
def f71b42 : AQ := (.seq f71b41 f71b36)
theorem uf71b42 (P ts os Q) : awl P f71b42 Q ts os = awl P (.seq f71b41 f71b36) Q ts os := id rfl
def f71r43 : List AI := [⟨none, (.box 1 41 (.t 0))⟩, ⟨none, (.mov 2 (.v (.k (.c (.int .i64 0)))))⟩, ⟨none, (.mov 3 (.v (.k (.c (.int .i64 0)))))⟩]
theorem uf71r43 : type_of% @f71r43.eq_1 := id @f71r43.eq_1
def f71b44 : AQ := (.seq (.region f71r43) f71b42)
theorem uf71b44 (P ts os Q) : awl P f71b44 Q ts os = awl P (.seq (.region f71r43) f71b42) Q ts os := id rfl
def f71 : AQ := f71b44
theorem uf71 (P ts os Q) : awl P f71 Q ts os = awl P f71b44 Q ts os := id rfl
theorem hf71 : cFunc Try.prog 71 = some ⟨39, f71.erase, [(RX.t 2), (RX.t 3)]⟩ := by kernel_rfl
theorem okf71 : f71.ok = true := by kernel_rfl
def f72r1 : List AI := [⟨none, (.bslice 25 3 1 [(.int .i64 0)] 2 [(0, (.v (.k (.c (.int .i64 0))))), (1, (.v (.k (.c (.int .i64 0)))))])⟩, ⟨none, (.build 26 [(.list 0 (some true) []), (.int .i64 0)] [(0, (1, (.t 25))), (1, (1, (.v (.k (.c (.int .i64 0))))))])⟩, ⟨none, (.store 2 (.t 2) (.t 26))⟩]
theorem uf72r1 : type_of% @f72r1.eq_1 := id @f72r1.eq_1
def f72b2 : AQ := (.seq (.region f72r1) .ret)
theorem uf72b2 (P ts os Q) : awl P f72b2 Q ts os = awl P (.seq (.region f72r1) .ret) Q ts os := id rfl
def f72r3 : List AI := [⟨none, (.bslice 6 3 1 [(.int .i64 0)] 1 [(0, (.v (.k (.c (.int .i64 1)))))])⟩, ⟨none, (.build 7 [(.list 0 (some true) []), (.int .i64 0)] [(0, (1, (.t 6))), (1, (1, (.v (.k (.c (.int .i64 1))))))])⟩, ⟨none, (.store 2 (.t 2) (.t 7))⟩]
theorem uf72r3 : type_of% @f72r3.eq_1 := id @f72r3.eq_1
def f72b4 : AQ := (.seq (.region f72r3) .ret)
theorem uf72b4 (P ts os Q) : awl P f72b4 Q ts os = awl P (.seq (.region f72r3) .ret) Q ts os := id rfl
def f72r5 : List AI := [⟨none, (.bslice 11 3 1 [(.int .i64 0)] 2 [(0, (.v (.k (.c (.int .i64 1))))), (1, (.v (.k (.c (.int .i64 1)))))])⟩, ⟨none, (.build 12 [(.list 0 (some true) []), (.int .i64 0)] [(0, (1, (.t 11))), (1, (1, (.v (.k (.c (.int .i64 1))))))])⟩, ⟨none, (.store 2 (.t 2) (.t 12))⟩]
theorem uf72r5 : type_of% @f72r5.eq_1 := id @f72r5.eq_1
def f72b6 : AQ := (.seq (.region f72r5) .ret)
theorem uf72b6 (P ts os Q) : awl P f72b6 Q ts os = awl P (.seq (.region f72r5) .ret) Q ts os := id rfl
def f72r7 : List AI := [⟨none, (.bslice 15 3 1 [(.int .i64 0)] 3 [(0, (.v (.k (.c (.int .i64 1))))), (1, (.v (.k (.c (.int .i64 (-1)))))), (2, (.v (.k (.c (.int .i64 (-1))))))])⟩, (AI.mk none (.build 16 [(.list 0 (some true) []), (.int .i64 0)] [(0, (1, (.t 15))), (1, (1, (.v (.k (.c (.int .i64 (-1)))))))])), ⟨none, (.store 2 (.t 2) (.t 16))⟩]
theorem uf72r7 : type_of% @f72r7.eq_1 := id @f72r7.eq_1
def f72b8 : AQ := (.seq (.region f72r7) .ret)
theorem uf72b8 (P ts os Q) : awl P f72b8 Q ts os = awl P (.seq (.region f72r7) .ret) Q ts os := id rfl
def f72r9 : List AI := [⟨none, (.bslice 19 3 1 [(.int .i64 0)] 2 [(0, (.v (.k (.c (.int .i64 0))))), (1, (.v (.k (.c (.int .i64 0)))))])⟩, ⟨none, (.build 20 [(.list 0 (some true) []), (.int .i64 0)] [(0, (1, (.t 19))), (1, (1, (.v (.k (.c (.int .i64 1))))))])⟩, ⟨none, (.store 2 (.t 2) (.t 20))⟩]
theorem uf72r9 : type_of% @f72r9.eq_1 := id @f72r9.eq_1
def f72b10 : AQ := (.seq (.region f72r9) .ret)
theorem uf72b10 (P ts os Q) : awl P f72b10 Q ts os = awl P (.seq (.region f72r9) .ret) Q ts os := id rfl
def f72r11 : List AI := [⟨none, (.bslice 23 3 1 [(.int .i64 0)] 2 [(0, (.v (.k (.c (.int .i64 (-1)))))), (1, (.v (.k (.c (.int .i64 (-1))))))])⟩, ⟨none, (.build 24 [(.list 0 (some true) []), (.int .i64 0)] [(0, (1, (.t 23))), (1, (1, (.v (.k (.c (.int .i64 1))))))])⟩, ⟨none, (.store 2 (.t 2) (.t 24))⟩]
theorem uf72r11 : type_of% @f72r11.eq_1 := id @f72r11.eq_1
def f72b12 : AQ := (.seq (.region f72r11) .ret)
theorem uf72b12 (P ts os Q) : awl P f72b12 Q ts os = awl P (.seq (.region f72r11) .ret) Q ts os := id rfl
def f72b13 : AQ := (.cond (.t 21) f72b12 .skip)
theorem uf72b13 (P ts os Q) : awl P f72b13 Q ts os = awl P (.cond (.t 21) f72b12 .skip) Q ts os := id rfl
def f72r14 : List AI := [⟨none, (.bin 22 .eql (.t 3) (.v (.k (.c (.int .i64 8)))))⟩, ⟨none, (.mov 21 (.t 22))⟩]
theorem uf72r14 : type_of% @f72r14.eq_1 := id @f72r14.eq_1
def f72b15 : AQ := (.seq (.region f72r14) f72b13)
theorem uf72b15 (P ts os Q) : awl P f72b15 Q ts os = awl P (.seq (.region f72r14) f72b13) Q ts os := id rfl
def f72b16 : AQ := (.cond (.t 17) f72b10 f72b15)
theorem uf72b16 (P ts os Q) : awl P f72b16 Q ts os = awl P (.cond (.t 17) f72b10 f72b15) Q ts os := id rfl
def f72r17 : List AI := [⟨none, (.bin 18 .eql (.t 3) (.v (.k (.c (.int .i64 7)))))⟩, ⟨none, (.mov 17 (.t 18))⟩]
theorem uf72r17 : type_of% @f72r17.eq_1 := id @f72r17.eq_1
def f72b18 : AQ := (.seq (.region f72r17) f72b16)
theorem uf72b18 (P ts os Q) : awl P f72b18 Q ts os = awl P (.seq (.region f72r17) f72b16) Q ts os := id rfl
def f72b19 : AQ := (.cond (.t 13) f72b8 f72b18)
theorem uf72b19 (P ts os Q) : awl P f72b19 Q ts os = awl P (.cond (.t 13) f72b8 f72b18) Q ts os := id rfl
def f72r20 : List AI := [⟨none, (.bin 14 .eql (.t 3) (.v (.k (.c (.int .i64 6)))))⟩, ⟨none, (.mov 13 (.t 14))⟩]
theorem uf72r20 : type_of% @f72r20.eq_1 := id @f72r20.eq_1
def f72b21 : AQ := (.seq (.region f72r20) f72b19)
theorem uf72b21 (P ts os Q) : awl P f72b21 Q ts os = awl P (.seq (.region f72r20) f72b19) Q ts os := id rfl
def f72b22 : AQ := (.cond (.t 8) f72b6 f72b21)
theorem uf72b22 (P ts os Q) : awl P f72b22 Q ts os = awl P (.cond (.t 8) f72b6 f72b21) Q ts os := id rfl
def f72r23 : List AI := [⟨none, (.bin 10 .eql (.t 3) (.v (.k (.c (.int .i64 5)))))⟩, ⟨none, (.mov 8 (.t 10))⟩]
theorem uf72r23 : type_of% @f72r23.eq_1 := id @f72r23.eq_1
def f72b24 : AQ := (.cond (.t 8) .skip (.region f72r23))
theorem uf72b24 (P ts os Q) : awl P f72b24 Q ts os = awl P (.cond (.t 8) .skip (.region f72r23)) Q ts os := id rfl
def f72r25 : List AI := [⟨none, (.bin 9 .eql (.t 3) (.v (.k (.c (.int .i64 4)))))⟩, ⟨none, (.mov 8 (.t 9))⟩]
theorem uf72r25 : type_of% @f72r25.eq_1 := id @f72r25.eq_1
def f72b26 : AQ := (.seq (.region f72r25) f72b24)
theorem uf72b26 (P ts os Q) : awl P f72b26 Q ts os = awl P (.seq (.region f72r25) f72b24) Q ts os := id rfl
def f72b27 : AQ := (.seq f72b26 f72b22)
theorem uf72b27 (P ts os Q) : awl P f72b27 Q ts os = awl P (.seq f72b26 f72b22) Q ts os := id rfl
def f72b28 : AQ := (.cond (.t 4) f72b4 f72b27)
theorem uf72b28 (P ts os Q) : awl P f72b28 Q ts os = awl P (.cond (.t 4) f72b4 f72b27) Q ts os := id rfl
def f72r29 : List AI := [⟨none, (.bin 5 .eql (.t 3) (.v (.k (.c (.int .i64 3)))))⟩, ⟨none, (.mov 4 (.t 5))⟩]
theorem uf72r29 : type_of% @f72r29.eq_1 := id @f72r29.eq_1
def f72b30 : AQ := (.seq (.region f72r29) f72b28)
theorem uf72b30 (P ts os Q) : awl P f72b30 Q ts os = awl P (.seq (.region f72r29) f72b28) Q ts os := id rfl
def f72b31 : AQ := (.block 0 f72b30)
theorem uf72b31 (P ts os Q) : awl P f72b31 Q ts os = awl P (.block 0 f72b30) Q ts os := id rfl
def f72r32 : List AI := [⟨none, (.mov 3 (.t 0))⟩]
theorem uf72r32 : type_of% @f72r32.eq_1 := id @f72r32.eq_1
def f72b33 : AQ := (.seq (.region f72r32) f72b31)
theorem uf72b33 (P ts os Q) : awl P f72b33 Q ts os = awl P (.seq (.region f72r32) f72b31) Q ts os := id rfl
def f72b34 : AQ := (.seq f72b33 f72b2)
theorem uf72b34 (P ts os Q) : awl P f72b34 Q ts os = awl P (.seq f72b33 f72b2) Q ts os := id rfl
def f72r35 : List AI := [⟨none, (.alloc 2 92 [(.list 0 (some true) []), (.int .i64 0)])⟩]
theorem uf72r35 : type_of% @f72r35.eq_1 := id @f72r35.eq_1
def f72b36 : AQ := (.seq (.region f72r35) f72b34)
theorem uf72b36 (P ts os Q) : awl P f72b36 Q ts os = awl P (.seq (.region f72r35) f72b34) Q ts os := id rfl
def f72 : AQ := f72b36
theorem uf72 (P ts os Q) : awl P f72 Q ts os = awl P f72b36 Q ts os := id rfl
theorem hf72 : cFunc Try.prog 72 = some ⟨27, f72.erase, [(RX.cell 2 2 true)]⟩ := by kernel_rfl
theorem okf72 : f72.ok = true := by kernel_rfl
def f76r1 : List AI := [⟨none, (.faddr 37 0 (.t 2))⟩, ⟨none, (.load 38 1 false (.t 37))⟩, ⟨none, (.mov 39 (.t 1))⟩, ⟨none, (.iaddr 40 2 (.t 38) (.t 39))⟩, ⟨none, (.faddr 41 1 (.t 40))⟩, ⟨none, (.load 42 1 false (.t 41))⟩, ⟨none, (.call (some 43) 93 [(.t 42)])⟩, ⟨none, (.build 44 [(.bool false), (.int .i64 0)] [(0, (1, (.v (.k (.c (.bool true)))))), (1, (1, (.t 43)))])⟩, ⟨none, (.store 2 (.t 4) (.t 44))⟩]
theorem uf76r1 : type_of% @f76r1.eq_1 := id @f76r1.eq_1
def f76b2 : AQ := (.seq (.region f76r1) .ret)
theorem uf76b2 (P ts os Q) : awl P f76b2 Q ts os = awl P (.seq (.region f76r1) .ret) Q ts os := id rfl
def f76r3 : List AI := [⟨none, (.faddr 29 0 (.t 2))⟩, ⟨none, (.load 30 1 false (.t 29))⟩, ⟨none, (.mov 31 (.t 1))⟩, ⟨none, (.iaddr 32 2 (.t 30) (.t 31))⟩, ⟨none, (.faddr 33 1 (.t 32))⟩, ⟨none, (.load 34 1 false (.t 33))⟩, ⟨none, (.bin 35 .neq (.t 34) (.v (.k (.c (.int .i64 0)))))⟩, ⟨none, (.call (some 36) 94 [(.t 35)])⟩, ⟨none, (.store 2 (.t 4) (.t 36))⟩]
theorem uf76r3 : type_of% @f76r3.eq_1 := id @f76r3.eq_1
def f76b4 : AQ := (.seq (.region f76r3) .ret)
theorem uf76b4 (P ts os Q) : awl P f76b4 Q ts os = awl P (.seq (.region f76r3) .ret) Q ts os := id rfl
def f76b5 : AQ := (.cond (.t 28) f76b4 .skip)
theorem uf76b5 (P ts os Q) : awl P f76b5 Q ts os = awl P (.cond (.t 28) f76b4 .skip) Q ts os := id rfl
def f76r6 : List AI := [⟨none, (.mov 27 (.t 5))⟩, ⟨none, (.bin 28 .eql (.t 27) (.v (.k (.c (.int .i64 1)))))⟩]
theorem uf76r6 : type_of% @f76r6.eq_1 := id @f76r6.eq_1
def f76b7 : AQ := (.seq (.region f76r6) f76b5)
theorem uf76b7 (P ts os Q) : awl P f76b7 Q ts os = awl P (.seq (.region f76r6) f76b5) Q ts os := id rfl
def f76r8 : List AI := [⟨none, (.mov 23 (.t 1))⟩, ⟨none, (.call (some 24) 33 [(.t 23)])⟩, ⟨none, (.mov 22 (.t 24))⟩, ⟨none, (.extr 25 (.t 22) 0)⟩, ⟨none, (.extr 26 (.t 22) 1)⟩, ⟨none, (.mov 5 (.t 25))⟩, ⟨none, (.mov 6 (.t 26))⟩]
theorem uf76r8 : type_of% @f76r8.eq_1 := id @f76r8.eq_1
def f76b9 : AQ := (.seq (.region f76r8) f76b7)
theorem uf76b9 (P ts os Q) : awl P f76b9 Q ts os = awl P (.seq (.region f76r8) f76b7) Q ts os := id rfl
def f76b10 : AQ := (.seq f76b9 f76b2)
theorem uf76b10 (P ts os Q) : awl P f76b10 Q ts os = awl P (.seq f76b9 f76b2) Q ts os := id rfl
def f76r11 : List AI := [⟨none, (.build 21 [(.bool false), (.int .i64 0)] [])⟩, ⟨none, (.store 2 (.t 4) (.t 21))⟩]
theorem uf76r11 : type_of% @f76r11.eq_1 := id @f76r11.eq_1
def f76b12 : AQ := (.seq (.region f76r11) .ret)
theorem uf76b12 (P ts os Q) : awl P f76b12 Q ts os = awl P (.seq (.region f76r11) .ret) Q ts os := id rfl
def f76b13 : AQ := (.cond (.t 20) f76b12 .skip)
theorem uf76b13 (P ts os Q) : awl P f76b13 Q ts os = awl P (.cond (.t 20) f76b12 .skip) Q ts os := id rfl
def f76r14 : List AI := [⟨none, (.mov 7 (.t 1))⟩, ⟨none, (.faddr 8 0 (.t 2))⟩, ⟨none, (.load 9 1 false (.t 8))⟩, ⟨none, (.len 10 (.t 9))⟩, ⟨none, (.bin 11 .geq (.t 7) (.t 10))⟩, ⟨none, (.mov 12 (.t 11))⟩, ⟨(some (12, false)), (.faddr 13 0 (.t 2))⟩, ⟨(some (12, false)), (.load 14 1 false (.t 13))⟩, ⟨(some (12, false)), (.mov 15 (.t 1))⟩, ⟨(some (12, false)), (.iaddr 16 2 (.t 14) (.t 15))⟩, ⟨(some (12, false)), (.faddr 17 0 (.t 16))⟩, ⟨(some (12, false)), (.load 18 1 false (.t 17))⟩, ⟨(some (12, false)), (.un 19 .not (.t 18))⟩, ⟨none, (.pick 20 (.t 12) (.v (.k (.c (.bool true)))) (.t 19))⟩]
theorem uf76r14 : type_of% @f76r14.eq_1 := id @f76r14.eq_1
def f76b15 : AQ := (.seq (.region f76r14) f76b13)
theorem uf76b15 (P ts os Q) : awl P f76b15 Q ts os = awl P (.seq (.region f76r14) f76b13) Q ts os := id rfl
def f76b16 : AQ := (.seq f76b15 f76b10)
theorem uf76b16 (P ts os Q) : awl P f76b16 Q ts os = awl P (.seq f76b15 f76b10) Q ts os := id rfl
def f76r17 : List AI := [⟨none, (.box 2 83 (.t 0))⟩, ⟨none, (.alloc 4 53 [(.bool false), (.int .i64 0)])⟩]
theorem uf76r17 : type_of% @f76r17.eq_1 := id @f76r17.eq_1
def f76b18 : AQ := (.seq (.region f76r17) f76b16)
theorem uf76b18 (P ts os Q) : awl P f76b18 Q ts os = awl P (.seq (.region f76r17) f76b16) Q ts os := id rfl
def f76 : AQ := f76b18
theorem uf76 (P ts os Q) : awl P f76 Q ts os = awl P f76b18 Q ts os := id rfl
theorem hf76 : cFunc Try.prog 76 = some ⟨45, f76.erase, [(RX.cell 4 2 true)]⟩ := by kernel_rfl
theorem okf76 : f76.ok = true := by kernel_rfl
def f77r1 : List AI := [⟨none, (.mov 100 (.t 0))⟩, ⟨none, (.mov 101 (.t 6))⟩, ⟨none, (.mov 102 (.t 7))⟩, ⟨none, (.call (some 103) 95 [(.t 100), (.t 101), (.t 102)])⟩, ⟨none, (.build 104 [(.bool false), (.int .i64 0)] [(0, (1, (.v (.k (.c (.bool true)))))), (1, (1, (.t 103)))])⟩, ⟨none, (.store 2 (.t 4) (.t 104))⟩]
theorem uf77r1 : type_of% @f77r1.eq_1 := id @f77r1.eq_1
def f77b2 : AQ := (.seq (.region f77r1) .ret)
theorem uf77b2 (P ts os Q) : awl P f77b2 Q ts os = awl P (.seq (.region f77r1) .ret) Q ts os := id rfl
def f77r3 : List AI := [⟨none, (.mov 85 (.t 0))⟩, ⟨none, (.bin 86 .eql (.t 85) (.v (.k (.c (.int .i64 4)))))⟩, ⟨none, (.call (some 87) 94 [(.t 86)])⟩, ⟨none, (.store 2 (.t 4) (.t 87))⟩]
theorem uf77r3 : type_of% @f77r3.eq_1 := id @f77r3.eq_1
def f77b4 : AQ := (.seq (.region f77r3) .ret)
theorem uf77b4 (P ts os Q) : awl P f77b4 Q ts os = awl P (.seq (.region f77r3) .ret) Q ts os := id rfl
def f77r5 : List AI := [⟨none, (.mov 90 (.t 6))⟩, ⟨none, (.mov 91 (.t 7))⟩, ⟨none, (.bin 92 .lss (.t 90) (.t 91))⟩, ⟨none, (.call (some 93) 94 [(.t 92)])⟩, ⟨none, (.store 2 (.t 4) (.t 93))⟩]
theorem uf77r5 : type_of% @f77r5.eq_1 := id @f77r5.eq_1
def f77b6 : AQ := (.seq (.region f77r5) .ret)
theorem uf77b6 (P ts os Q) : awl P f77b6 Q ts os = awl P (.seq (.region f77r5) .ret) Q ts os := id rfl
def f77r7 : List AI := [⟨none, (.mov 96 (.t 6))⟩, ⟨none, (.mov 97 (.t 7))⟩, ⟨none, (.bin 98 .eql (.t 96) (.t 97))⟩, ⟨none, (.call (some 99) 94 [(.t 98)])⟩, ⟨none, (.store 2 (.t 4) (.t 99))⟩]
theorem uf77r7 : type_of% @f77r7.eq_1 := id @f77r7.eq_1
def f77b8 : AQ := (.seq (.region f77r7) .ret)
theorem uf77b8 (P ts os Q) : awl P f77b8 Q ts os = awl P (.seq (.region f77r7) .ret) Q ts os := id rfl
def f77b9 : AQ := (.cond (.t 94) f77b8 .skip)
theorem uf77b9 (P ts os Q) : awl P f77b9 Q ts os = awl P (.cond (.t 94) f77b8 .skip) Q ts os := id rfl
def f77r10 : List AI := [⟨none, (.bin 95 .eql (.t 81) (.v (.k (.c (.int .i64 8)))))⟩, ⟨none, (.mov 94 (.t 95))⟩]
theorem uf77r10 : type_of% @f77r10.eq_1 := id @f77r10.eq_1
def f77b11 : AQ := (.seq (.region f77r10) f77b9)
theorem uf77b11 (P ts os Q) : awl P f77b11 Q ts os = awl P (.seq (.region f77r10) f77b9) Q ts os := id rfl
def f77b12 : AQ := (.cond (.t 88) f77b6 f77b11)
theorem uf77b12 (P ts os Q) : awl P f77b12 Q ts os = awl P (.cond (.t 88) f77b6 f77b11) Q ts os := id rfl
def f77r13 : List AI := [⟨none, (.bin 89 .eql (.t 81) (.v (.k (.c (.int .i64 7)))))⟩, ⟨none, (.mov 88 (.t 89))⟩]
theorem uf77r13 : type_of% @f77r13.eq_1 := id @f77r13.eq_1
def f77b14 : AQ := (.seq (.region f77r13) f77b12)
theorem uf77b14 (P ts os Q) : awl P f77b14 Q ts os = awl P (.seq (.region f77r13) f77b12) Q ts os := id rfl
def f77b15 : AQ := (.cond (.t 82) f77b4 f77b14)
theorem uf77b15 (P ts os Q) : awl P f77b15 Q ts os = awl P (.cond (.t 82) f77b4 f77b14) Q ts os := id rfl
def f77r16 : List AI := [⟨none, (.bin 84 .eql (.t 81) (.v (.k (.c (.int .i64 5)))))⟩, ⟨none, (.mov 82 (.t 84))⟩]
theorem uf77r16 : type_of% @f77r16.eq_1 := id @f77r16.eq_1
def f77b17 : AQ := (.cond (.t 82) .skip (.region f77r16))
theorem uf77b17 (P ts os Q) : awl P f77b17 Q ts os = awl P (.cond (.t 82) .skip (.region f77r16)) Q ts os := id rfl
def f77r18 : List AI := [⟨none, (.bin 83 .eql (.t 81) (.v (.k (.c (.int .i64 4)))))⟩, ⟨none, (.mov 82 (.t 83))⟩]
theorem uf77r18 : type_of% @f77r18.eq_1 := id @f77r18.eq_1
def f77b19 : AQ := (.seq (.region f77r18) f77b17)
theorem uf77b19 (P ts os Q) : awl P f77b19 Q ts os = awl P (.seq (.region f77r18) f77b17) Q ts os := id rfl
def f77b20 : AQ := (.seq f77b19 f77b15)
theorem uf77b20 (P ts os Q) : awl P f77b20 Q ts os = awl P (.seq f77b19 f77b15) Q ts os := id rfl
def f77b21 : AQ := (.block 1 f77b20)
theorem uf77b21 (P ts os Q) : awl P f77b21 Q ts os = awl P (.block 1 f77b20) Q ts os := id rfl
def f77r22 : List AI := [⟨none, (.mov 81 (.t 0))⟩]
theorem uf77r22 : type_of% @f77r22.eq_1 := id @f77r22.eq_1
def f77b23 : AQ := (.seq (.region f77r22) f77b21)
theorem uf77b23 (P ts os Q) : awl P f77b23 Q ts os = awl P (.seq (.region f77r22) f77b21) Q ts os := id rfl
def f77b24 : AQ := (.seq f77b23 f77b2)
theorem uf77b24 (P ts os Q) : awl P f77b24 Q ts os = awl P (.seq f77b23 f77b2) Q ts os := id rfl
def f77r25 : List AI := [⟨none, (.mov 73 (.t 1))⟩, ⟨none, (.iaddr 74 2 (.t 73) (.v (.k (.c (.int .i64 0)))))⟩, ⟨none, (.faddr 75 1 (.t 74))⟩, ⟨none, (.load 76 1 false (.t 75))⟩, ⟨none, (.mov 77 (.t 1))⟩, ⟨none, (.iaddr 78 2 (.t 77) (.v (.k (.c (.int .i64 1)))))⟩, ⟨none, (.faddr 79 1 (.t 78))⟩, ⟨none, (.load 80 1 false (.t 79))⟩, ⟨none, (.mov 6 (.t 76))⟩, ⟨none, (.mov 7 (.t 80))⟩]
theorem uf77r25 : type_of% @f77r25.eq_1 := id @f77r25.eq_1
def f77b26 : AQ := (.seq (.draw f77r25 [[], [0], [1], [2], [], [4], [5], [6], [3, 0, 1, 2, 3], [7, 8, 0, 1, 2, 3, 4, 5, 6, 7, 8]]) f77b24)
theorem uf77b26 (P ts os Q) : awl P f77b26 Q ts os = awl P (.seq (.draw f77r25 [[], [0], [1], [2], [], [4], [5], [6], [3, 0, 1, 2, 3], [7, 8, 0, 1, 2, 3, 4, 5, 6, 7, 8]]) f77b24) Q ts os := id rfl
def f77r27 : List AI := [⟨none, (.build 72 [(.bool false), (.int .i64 0)] [])⟩, ⟨none, (.store 2 (.t 4) (.t 72))⟩]
theorem uf77r27 : type_of% @f77r27.eq_1 := id @f77r27.eq_1
def f77b28 : AQ := (.seq (.region f77r27) .ret)
theorem uf77b28 (P ts os Q) : awl P f77b28 Q ts os = awl P (.seq (.region f77r27) .ret) Q ts os := id rfl
def f77b29 : AQ := (.cond (.t 71) f77b28 .skip)
theorem uf77b29 (P ts os Q) : awl P f77b29 Q ts os = awl P (.cond (.t 71) f77b28 .skip) Q ts os := id rfl
def f77r30 : List AI := [⟨none, (.mov 60 (.t 1))⟩, ⟨none, (.iaddr 61 2 (.t 60) (.v (.k (.c (.int .i64 0)))))⟩, ⟨none, (.faddr 62 0 (.t 61))⟩, ⟨none, (.load 63 1 false (.t 62))⟩, ⟨none, (.un 64 .not (.t 63))⟩, ⟨none, (.mov 65 (.t 64))⟩, ⟨(some (65, false)), (.mov 66 (.t 1))⟩, ⟨(some (65, false)), (.iaddr 67 2 (.t 66) (.v (.k (.c (.int .i64 1)))))⟩, ⟨(some (65, false)), (.faddr 68 0 (.t 67))⟩, ⟨(some (65, false)), (.load 69 1 false (.t 68))⟩, ⟨(some (65, false)), (.un 70 .not (.t 69))⟩, ⟨none, (.pick 71 (.t 65) (.v (.k (.c (.bool true)))) (.t 70))⟩]
theorem uf77r30 : type_of% @f77r30.eq_1 := id @f77r30.eq_1
def f77b31 : AQ := (.seq (.region f77r30) f77b29)
theorem uf77b31 (P ts os Q) : awl P f77b31 Q ts os = awl P (.seq (.region f77r30) f77b29) Q ts os := id rfl
def f77b32 : AQ := (.seq f77b31 f77b26)
theorem uf77b32 (P ts os Q) : awl P f77b32 Q ts os = awl P (.seq f77b31 f77b26) Q ts os := id rfl
def f77r33 : List AI := [⟨none, (.build 21 [(.bool false), (.int .i64 0)] [])⟩, ⟨none, (.store 2 (.t 4) (.t 21))⟩]
theorem uf77r33 : type_of% @f77r33.eq_1 := id @f77r33.eq_1
def f77b34 : AQ := (.seq (.region f77r33) .ret)
theorem uf77b34 (P ts os Q) : awl P f77b34 Q ts os = awl P (.seq (.region f77r33) .ret) Q ts os := id rfl
def f77r35 : List AI := [⟨none, (.mov 15 (.t 1))⟩, ⟨none, (.iaddr 16 2 (.t 15) (.v (.k (.c (.int .i64 0)))))⟩, ⟨none, (.faddr 17 1 (.t 16))⟩, ⟨none, (.load 18 1 false (.t 17))⟩, ⟨none, (.bin 19 .eql (.t 18) (.v (.k (.c (.int .i64 0)))))⟩, ⟨none, (.call (some 20) 94 [(.t 19)])⟩, ⟨none, (.store 2 (.t 4) (.t 20))⟩]
theorem uf77r35 : type_of% @f77r35.eq_1 := id @f77r35.eq_1
def f77b36 : AQ := (.seq (.region f77r35) .ret)
theorem uf77b36 (P ts os Q) : awl P f77b36 Q ts os = awl P (.seq (.region f77r35) .ret) Q ts os := id rfl
def f77b37 : AQ := (.cond (.t 14) f77b36 .skip)
theorem uf77b37 (P ts os Q) : awl P f77b37 Q ts os = awl P (.cond (.t 14) f77b36 .skip) Q ts os := id rfl
def f77r38 : List AI := [⟨none, (.mov 11 (.t 1))⟩, ⟨none, (.iaddr 12 2 (.t 11) (.v (.k (.c (.int .i64 0)))))⟩, ⟨none, (.faddr 13 0 (.t 12))⟩, ⟨none, (.load 14 1 false (.t 13))⟩]
theorem uf77r38 : type_of% @f77r38.eq_1 := id @f77r38.eq_1
def f77b39 : AQ := (.seq (.region f77r38) f77b37)
theorem uf77b39 (P ts os Q) : awl P f77b39 Q ts os = awl P (.seq (.region f77r38) f77b37) Q ts os := id rfl
def f77b40 : AQ := (.seq f77b39 f77b34)
theorem uf77b40 (P ts os Q) : awl P f77b40 Q ts os = awl P (.seq f77b39 f77b34) Q ts os := id rfl
def f77r41 : List AI := [⟨none, (.load 40 2 true (.t 5))⟩, ⟨none, (.store 2 (.t 4) (.t 40))⟩]
theorem uf77r41 : type_of% @f77r41.eq_1 := id @f77r41.eq_1
def f77b42 : AQ := (.seq (.region f77r41) .ret)
theorem uf77b42 (P ts os Q) : awl P f77b42 Q ts os = awl P (.seq (.region f77r41) .ret) Q ts os := id rfl
def f77b43 : AQ := (.cond (.t 39) f77b42 .skip)
theorem uf77b43 (P ts os Q) : awl P f77b43 Q ts os = awl P (.cond (.t 39) f77b42 .skip) Q ts os := id rfl
def f77r44 : List AI := [⟨none, (.mov 28 (.t 1))⟩, ⟨none, (.iaddr 29 2 (.t 28) (.v (.k (.c (.int .i64 0)))))⟩, ⟨none, (.load 30 2 true (.t 29))⟩, ⟨none, (.load 31 2 true (.t 5))⟩, ⟨none, (.eqAgg 32 false [.bool, .int] (.t 30) (.t 31))⟩, ⟨none, (.mov 33 (.t 32))⟩, ⟨(some (33, false)), (.mov 34 (.t 1))⟩, ⟨(some (33, false)), (.iaddr 35 2 (.t 34) (.v (.k (.c (.int .i64 1)))))⟩, ⟨(some (33, false)), (.load 36 2 true (.t 35))⟩, ⟨(some (33, false)), (.load 37 2 true (.t 5))⟩, ⟨(some (33, false)), (.eqAgg 38 false [.bool, .int] (.t 36) (.t 37))⟩, ⟨none, (.pick 39 (.t 33) (.v (.k (.c (.bool true)))) (.t 38))⟩]
theorem uf77r44 : type_of% @f77r44.eq_1 := id @f77r44.eq_1
def f77b45 : AQ := (.seq (.draw f77r44 [[], [0], [1], [], [2, 3], [4], [5], [6, 5], [7, 5], [5], [8, 9, 5], [5, 10]]) f77b43)
theorem uf77b45 (P ts os Q) : awl P f77b45 Q ts os = awl P (.seq (.draw f77r44 [[], [0], [1], [], [2, 3], [4], [5], [6, 5], [7, 5], [5], [8, 9, 5], [5, 10]]) f77b43) Q ts os := id rfl
def f77r46 : List AI := [⟨none, (.mov 25 (.t 0))⟩, ⟨none, (.bin 26 .eql (.t 25) (.v (.k (.c (.int .i64 5)))))⟩, ⟨none, (.call (some 27) 94 [(.t 26)])⟩, ⟨none, (.alloc 5 53 [(.bool false), (.int .i64 0)])⟩, ⟨none, (.store 2 (.t 5) (.t 27))⟩]
theorem uf77r46 : type_of% @f77r46.eq_1 := id @f77r46.eq_1
def f77b47 : AQ := (.seq (.region f77r46) f77b45)
theorem uf77b47 (P ts os Q) : awl P f77b47 Q ts os = awl P (.seq (.region f77r46) f77b45) Q ts os := id rfl
def f77r48 : List AI := [⟨none, (.build 59 [(.bool false), (.int .i64 0)] [])⟩, ⟨none, (.store 2 (.t 4) (.t 59))⟩]
theorem uf77r48 : type_of% @f77r48.eq_1 := id @f77r48.eq_1
def f77b49 : AQ := (.seq (.region f77r48) .ret)
theorem uf77b49 (P ts os Q) : awl P f77b49 Q ts os = awl P (.seq (.region f77r48) .ret) Q ts os := id rfl
def f77r50 : List AI := [⟨none, (.mov 56 (.t 1))⟩, ⟨none, (.iaddr 57 2 (.t 56) (.v (.k (.c (.int .i64 1)))))⟩, ⟨none, (.load 58 2 true (.t 57))⟩, ⟨none, (.store 2 (.t 4) (.t 58))⟩]
theorem uf77r50 : type_of% @f77r50.eq_1 := id @f77r50.eq_1
def f77b51 : AQ := (.seq (.region f77r50) .ret)
theorem uf77b51 (P ts os Q) : awl P f77b51 Q ts os = awl P (.seq (.region f77r50) .ret) Q ts os := id rfl
def f77b52 : AQ := (.cond (.t 55) f77b51 .skip)
theorem uf77b52 (P ts os Q) : awl P f77b52 Q ts os = awl P (.cond (.t 55) f77b51 .skip) Q ts os := id rfl
def f77r53 : List AI := [⟨none, (.mov 43 (.t 1))⟩, ⟨none, (.iaddr 44 2 (.t 43) (.v (.k (.c (.int .i64 1)))))⟩, ⟨none, (.faddr 45 0 (.t 44))⟩, ⟨none, (.load 46 1 false (.t 45))⟩, ⟨none, (.mov 47 (.t 46))⟩, ⟨(some (47, true)), (.mov 48 (.t 1))⟩, ⟨(some (47, true)), (.iaddr 49 2 (.t 48) (.v (.k (.c (.int .i64 1)))))⟩, ⟨(some (47, true)), (.load 50 2 true (.t 49))⟩, ⟨(some (47, true)), (.mov 51 (.t 1))⟩, ⟨(some (47, true)), (.iaddr 52 2 (.t 51) (.v (.k (.c (.int .i64 2)))))⟩, ⟨(some (47, true)), (.load 53 2 true (.t 52))⟩, ⟨(some (47, true)), (.eqAgg 54 false [.bool, .int] (.t 50) (.t 53))⟩, ⟨none, (.pick 55 (.t 47) (.t 54) (.v (.k (.c (.bool false)))))⟩]
theorem uf77r53 : type_of% @f77r53.eq_1 := id @f77r53.eq_1
def f77b54 : AQ := (.seq (.draw f77r53 [[], [0], [1], [2], [3], [4], [5, 4], [6, 4], [4], [8, 4], [9, 4], [7, 10, 4], [4, 11]]) f77b52)
theorem uf77b54 (P ts os Q) : awl P f77b54 Q ts os = awl P (.seq (.draw f77r53 [[], [0], [1], [2], [3], [4], [5, 4], [6, 4], [4], [8, 4], [9, 4], [7, 10, 4], [4, 11]]) f77b52) Q ts os := id rfl
def f77b55 : AQ := (.seq f77b54 f77b49)
theorem uf77b55 (P ts os Q) : awl P f77b55 Q ts os = awl P (.seq f77b54 f77b49) Q ts os := id rfl
def f77b56 : AQ := (.cond (.t 41) f77b55 .skip)
theorem uf77b56 (P ts os Q) : awl P f77b56 Q ts os = awl P (.cond (.t 41) f77b55 .skip) Q ts os := id rfl
def f77r57 : List AI := [⟨none, (.bin 42 .eql (.t 8) (.v (.k (.c (.int .i64 6)))))⟩, ⟨none, (.mov 41 (.t 42))⟩]
theorem uf77r57 : type_of% @f77r57.eq_1 := id @f77r57.eq_1
def f77b58 : AQ := (.seq (.region f77r57) f77b56)
theorem uf77b58 (P ts os Q) : awl P f77b58 Q ts os = awl P (.seq (.region f77r57) f77b56) Q ts os := id rfl
def f77b59 : AQ := (.cond (.t 22) f77b47 f77b58)
theorem uf77b59 (P ts os Q) : awl P f77b59 Q ts os = awl P (.cond (.t 22) f77b47 f77b58) Q ts os := id rfl
def f77r60 : List AI := [⟨none, (.bin 24 .eql (.t 8) (.v (.k (.c (.int .i64 5)))))⟩, ⟨none, (.mov 22 (.t 24))⟩]
theorem uf77r60 : type_of% @f77r60.eq_1 := id @f77r60.eq_1
def f77b61 : AQ := (.cond (.t 22) .skip (.region f77r60))
theorem uf77b61 (P ts os Q) : awl P f77b61 Q ts os = awl P (.cond (.t 22) .skip (.region f77r60)) Q ts os := id rfl
def f77r62 : List AI := [⟨none, (.bin 23 .eql (.t 8) (.v (.k (.c (.int .i64 4)))))⟩, ⟨none, (.mov 22 (.t 23))⟩]
theorem uf77r62 : type_of% @f77r62.eq_1 := id @f77r62.eq_1
def f77b63 : AQ := (.seq (.region f77r62) f77b61)
theorem uf77b63 (P ts os Q) : awl P f77b63 Q ts os = awl P (.seq (.region f77r62) f77b61) Q ts os := id rfl
def f77b64 : AQ := (.seq f77b63 f77b59)
theorem uf77b64 (P ts os Q) : awl P f77b64 Q ts os = awl P (.seq f77b63 f77b59) Q ts os := id rfl
def f77b65 : AQ := (.cond (.t 9) f77b40 f77b64)
theorem uf77b65 (P ts os Q) : awl P f77b65 Q ts os = awl P (.cond (.t 9) f77b40 f77b64) Q ts os := id rfl
def f77r66 : List AI := [⟨none, (.bin 10 .eql (.t 8) (.v (.k (.c (.int .i64 3)))))⟩, ⟨none, (.mov 9 (.t 10))⟩]
theorem uf77r66 : type_of% @f77r66.eq_1 := id @f77r66.eq_1
def f77b67 : AQ := (.seq (.region f77r66) f77b65)
theorem uf77b67 (P ts os Q) : awl P f77b67 Q ts os = awl P (.seq (.region f77r66) f77b65) Q ts os := id rfl
def f77b68 : AQ := (.block 0 f77b67)
theorem uf77b68 (P ts os Q) : awl P f77b68 Q ts os = awl P (.block 0 f77b67) Q ts os := id rfl
def f77r69 : List AI := [⟨none, (.mov 8 (.t 0))⟩]
theorem uf77r69 : type_of% @f77r69.eq_1 := id @f77r69.eq_1
def f77b70 : AQ := (.seq (.region f77r69) f77b68)
theorem uf77b70 (P ts os Q) : awl P f77b70 Q ts os = awl P (.seq (.region f77r69) f77b68) Q ts os := id rfl
def f77b71 : AQ := (.seq f77b70 f77b32)
theorem uf77b71 (P ts os Q) : awl P f77b71 Q ts os = awl P (.seq f77b70 f77b32) Q ts os := id rfl
def f77r72 : List AI := [⟨none, (.alloc 4 53 [(.bool false), (.int .i64 0)])⟩]
theorem uf77r72 : type_of% @f77r72.eq_1 := id @f77r72.eq_1
def f77b73 : AQ := (.seq (.region f77r72) f77b71)
theorem uf77b73 (P ts os Q) : awl P f77b73 Q ts os = awl P (.seq (.region f77r72) f77b71) Q ts os := id rfl
def f77 : AQ := f77b73
theorem uf77 (P ts os Q) : awl P f77 Q ts os = awl P f77b73 Q ts os := id rfl
theorem hf77 : cFunc Try.prog 77 = some ⟨105, f77.erase, [(RX.cell 4 2 true)]⟩ := by kernel_rfl
theorem okf77 : f77.ok = true := by kernel_rfl
def f78r1 : List AI := [⟨none, (.mov 35 (.t 6))⟩, ⟨none, (.mov 2 (.t 35))⟩]
theorem uf78r1 : type_of% @f78r1.eq_1 := id @f78r1.eq_1
def f78b2 : AQ := (.seq (.region f78r1) .ret)
theorem uf78b2 (P ts os Q) : awl P f78b2 Q ts os = awl P (.seq (.region f78r1) .ret) Q ts os := id rfl
def f78r3 : List AI := [⟨none, (.bin 34 .add (.t 27) (.v (.k (.c (.int .i64 1)))))⟩, ⟨none, (.mov 27 (.t 34))⟩]
theorem uf78r3 : type_of% @f78r3.eq_1 := id @f78r3.eq_1
def f78r4 : List AI := [⟨none, (.mov 31 (.t 6))⟩, ⟨none, (.mov 32 (.t 8))⟩, ⟨none, (.append 33 3 1 8 (.t 31) (.t 32))⟩, ⟨none, (.mov 6 (.t 33))⟩]
theorem uf78r4 : type_of% @f78r4.eq_1 := id @f78r4.eq_1
def f78r5 : List AI := [⟨none, (.iaddr 29 1 (.t 25) (.t 27))⟩, ⟨none, (.load 30 1 false (.t 29))⟩, ⟨none, (.mov 8 (.t 30))⟩]
theorem uf78r5 : type_of% @f78r5.eq_1 := id @f78r5.eq_1
def f78b6 : AQ := (.seq (.region f78r5) (.region f78r4))
theorem uf78b6 (P ts os Q) : awl P f78b6 Q ts os = awl P (.seq (.region f78r5) (.region f78r4)) Q ts os := id rfl
def f78b7 : AQ := (.block 3 f78b6)
theorem uf78b7 (P ts os Q) : awl P f78b7 Q ts os = awl P (.block 3 f78b6) Q ts os := id rfl
def f78b8 : AQ := (.seq f78b7 (.region f78r3))
theorem uf78b8 (P ts os Q) : awl P f78b8 Q ts os = awl P (.seq f78b7 (.region f78r3)) Q ts os := id rfl
def f78b9 : AQ := (.cond (.t 28) .skip (.exit 2))
theorem uf78b9 (P ts os Q) : awl P f78b9 Q ts os = awl P (.cond (.t 28) .skip (.exit 2)) Q ts os := id rfl
def f78b10 : AQ := (.seq f78b9 f78b8)
theorem uf78b10 (P ts os Q) : awl P f78b10 Q ts os = awl P (.seq f78b9 f78b8) Q ts os := id rfl
def f78r11 : List AI := [⟨none, (.bin 28 .lss (.t 27) (.t 26))⟩]
theorem uf78r11 : type_of% @f78r11.eq_1 := id @f78r11.eq_1
def f78b12 : AQ := (.seq (.region f78r11) f78b10)
theorem uf78b12 (P ts os Q) : awl P f78b12 Q ts os = awl P (.seq (.region f78r11) f78b10) Q ts os := id rfl
def f78l13 : AQ := .loop [6, 25, 26, 27] [24, 33, 25000, 25001, 25002] f78b12
theorem uf78l13 (P ts os Q) : awl P f78l13 Q ts os = awl P (.loop [6, 25, 26, 27] [24, 33, 25000, 25001, 25002] f78b12) Q ts os := id rfl
def f78b14 : AQ := (.block 2 f78l13)
theorem uf78b14 (P ts os Q) : awl P f78b14 Q ts os = awl P (.block 2 f78l13) Q ts os := id rfl
def f78r15 : List AI := [⟨none, (.mov 25 (.t 0))⟩, ⟨none, (.len 26 (.t 25))⟩, ⟨none, (.mov 27 (.v (.k (.c (.int .i64 0)))))⟩]
theorem uf78r15 : type_of% @f78r15.eq_1 := id @f78r15.eq_1
def f78b16 : AQ := (.seq (.region f78r15) f78b14)
theorem uf78b16 (P ts os Q) : awl P f78b16 Q ts os = awl P (.seq (.region f78r15) f78b14) Q ts os := id rfl
def f78b17 : AQ := (.seq f78b16 f78b2)
theorem uf78b17 (P ts os Q) : awl P f78b17 Q ts os = awl P (.seq f78b16 f78b2) Q ts os := id rfl
def f78r18 : List AI := [⟨none, (.mov 23 (.t 3))⟩, ⟨none, (.call (some 24) 96 [(.v (.k (.c (.list 0 (some true) [])))), (.t 23)])⟩, ⟨none, (.mov 6 (.t 24))⟩]
theorem uf78r18 : type_of% @f78r18.eq_1 := id @f78r18.eq_1
def f78b19 : AQ := (.seq (.region f78r18) f78b17)
theorem uf78b19 (P ts os Q) : awl P f78b19 Q ts os = awl P (.seq (.region f78r18) f78b17) Q ts os := id rfl
def f78r20 : List AI := [⟨none, (.bin 22 .add (.t 11) (.v (.k (.c (.int .i64 1)))))⟩, ⟨none, (.mov 11 (.t 22))⟩]
theorem uf78r20 : type_of% @f78r20.eq_1 := id @f78r20.eq_1
def f78b21 : AQ := (.cond (.v V.any) .skip .skip)
def f78b22 : AQ := (.cond (.t 20) f78b21 .skip)
theorem uf78b22 (P ts os Q) : awl P f78b22 Q ts os = awl P (.cond (.t 20) f78b21 .skip) Q ts os := id rfl
def f78r23 : List AI := [⟨none, (.mov 19 (.t 3))⟩, ⟨none, (.bin 20 .lss (.t 19) (.v (.k (.c (.int .i64 0)))))⟩]
theorem uf78r23 : type_of% @f78r23.eq_1 := id @f78r23.eq_1
def f78b24 : AQ := (.seq (.region f78r23) f78b22)
theorem uf78b24 (P ts os Q) : awl P f78b24 Q ts os = awl P (.seq (.region f78r23) f78b22) Q ts os := id rfl
def f78r25 : List AI := [⟨none, (.mov 15 (.t 3))⟩, ⟨none, (.mov 16 (.t 5))⟩, ⟨none, (.len 17 (.t 16))⟩, ⟨none, (.bin 18 .add (.t 15) (.t 17))⟩, ⟨none, (.mov 3 (.t 18))⟩]
theorem uf78r25 : type_of% @f78r25.eq_1 := id @f78r25.eq_1
def f78b26 : AQ := (.seq (.region f78r25) f78b24)
theorem uf78b26 (P ts os Q) : awl P f78b26 Q ts os = awl P (.seq (.region f78r25) f78b24) Q ts os := id rfl
def f78r27 : List AI := [⟨none, (.iaddr 13 1 (.t 9) (.t 11))⟩, ⟨none, (.load 14 1 false (.t 13))⟩, ⟨none, (.mov 5 (.t 14))⟩]
theorem uf78r27 : type_of% @f78r27.eq_1 := id @f78r27.eq_1
def f78b28 : AQ := (.seq (.region f78r27) f78b26)
theorem uf78b28 (P ts os Q) : awl P f78b28 Q ts os = awl P (.seq (.region f78r27) f78b26) Q ts os := id rfl
def f78b29 : AQ := (.block 1 f78b28)
theorem uf78b29 (P ts os Q) : awl P f78b29 Q ts os = awl P (.block 1 f78b28) Q ts os := id rfl
def f78b30 : AQ := (.seq f78b29 (.region f78r20))
theorem uf78b30 (P ts os Q) : awl P f78b30 Q ts os = awl P (.seq f78b29 (.region f78r20)) Q ts os := id rfl
def f78b31 : AQ := (.cond (.t 12) .skip (.exit 0))
theorem uf78b31 (P ts os Q) : awl P f78b31 Q ts os = awl P (.cond (.t 12) .skip (.exit 0)) Q ts os := id rfl
def f78b32 : AQ := (.seq f78b31 f78b30)
theorem uf78b32 (P ts os Q) : awl P f78b32 Q ts os = awl P (.seq f78b31 f78b30) Q ts os := id rfl
def f78r33 : List AI := [⟨none, (.bin 12 .lss (.t 11) (.t 10))⟩]
theorem uf78r33 : type_of% @f78r33.eq_1 := id @f78r33.eq_1
def f78b34 : AQ := (.seq (.region f78r33) f78b32)
theorem uf78b34 (P ts os Q) : awl P f78b34 Q ts os = awl P (.seq (.region f78r33) f78b32) Q ts os := id rfl
def f78l35 : AQ := .loop [0, 3, 9, 10, 11] [] f78b34
theorem uf78l35 (P ts os Q) : awl P f78l35 Q ts os = awl P (.loop [0, 3, 9, 10, 11] [] f78b34) Q ts os := id rfl
def f78b36 : AQ := (.block 0 f78l35)
theorem uf78b36 (P ts os Q) : awl P f78b36 Q ts os = awl P (.block 0 f78l35) Q ts os := id rfl
def f78r37 : List AI := [⟨none, (.mov 9 (.t 0))⟩, ⟨none, (.len 10 (.t 9))⟩, ⟨none, (.mov 11 (.v (.k (.c (.int .i64 0)))))⟩]
theorem uf78r37 : type_of% @f78r37.eq_1 := id @f78r37.eq_1
def f78b38 : AQ := (.seq (.region f78r37) f78b36)
theorem uf78b38 (P ts os Q) : awl P f78b38 Q ts os = awl P (.seq (.region f78r37) f78b36) Q ts os := id rfl
def f78b39 : AQ := (.seq f78b38 f78b19)
theorem uf78b39 (P ts os Q) : awl P f78b39 Q ts os = awl P (.seq f78b38 f78b19) Q ts os := id rfl
def f78r40 : List AI := [⟨none, (.mov 3 (.v (.k (.c (.int .i64 0)))))⟩]
theorem uf78r40 : type_of% @f78r40.eq_1 := id @f78r40.eq_1
def f78b41 : AQ := (.seq (.region f78r40) f78b39)
theorem uf78b41 (P ts os Q) : awl P f78b41 Q ts os = awl P (.seq (.region f78r40) f78b39) Q ts os := id rfl
def f78r42 : List AI := [⟨none, (.nilL 2 3 1)⟩]
theorem uf78r42 : type_of% @f78r42.eq_1 := id @f78r42.eq_1
def f78b43 : AQ := (.seq (.region f78r42) f78b41)
theorem uf78b43 (P ts os Q) : awl P f78b43 Q ts os = awl P (.seq (.region f78r42) f78b41) Q ts os := id rfl
def f78 : AQ := f78b43
theorem uf78 (P ts os Q) : awl P f78 Q ts os = awl P f78b43 Q ts os := id rfl
theorem hf78 : cFunc Try.prog 78 = some ⟨36, f78.erase, [(RX.t 2)]⟩ := by kernel_rfl
theorem okf78 : f78.ok = true := by kernel_rfl
def f93r1 : List AI := [⟨none, (.mov 3 (.t 0))⟩, ⟨none, (.minmax 4 true (.t 3) [(.v (.k (.c (.int .i64 (-1099511627776)))))])⟩, ⟨none, (.minmax 5 false (.t 4) [(.v (.k (.c (.int .i64 1099511627776))))])⟩, ⟨none, (.mov 2 (.t 5))⟩]
theorem uf93r1 : type_of% @f93r1.eq_1 := id @f93r1.eq_1
def f93b2 : AQ := (.seq (.region f93r1) .ret)
theorem uf93b2 (P ts os Q) : awl P f93b2 Q ts os = awl P (.seq (.region f93r1) .ret) Q ts os := id rfl
def f93r3 : List AI := [⟨none, (.mov 2 (.v (.k (.c (.int .i64 0)))))⟩]
theorem uf93r3 : type_of% @f93r3.eq_1 := id @f93r3.eq_1
def f93b4 : AQ := (.seq (.region f93r3) f93b2)
theorem uf93b4 (P ts os Q) : awl P f93b4 Q ts os = awl P (.seq (.region f93r3) f93b2) Q ts os := id rfl
def f93 : AQ := f93b4
theorem uf93 (P ts os Q) : awl P f93 Q ts os = awl P f93b4 Q ts os := id rfl
theorem hf93 : cFunc Try.prog 93 = some ⟨6, f93.erase, [(RX.t 2)]⟩ := by kernel_rfl
theorem okf93 : f93.ok = true := by kernel_rfl
def f94r1 : List AI := [⟨none, (.build 5 [(.bool false), (.int .i64 0)] [(0, (1, (.v (.k (.c (.bool true))))))])⟩, ⟨none, (.store 2 (.t 2) (.t 5))⟩]
theorem uf94r1 : type_of% @f94r1.eq_1 := id @f94r1.eq_1
def f94b2 : AQ := (.seq (.region f94r1) .ret)
theorem uf94b2 (P ts os Q) : awl P f94b2 Q ts os = awl P (.seq (.region f94r1) .ret) Q ts os := id rfl
def f94r3 : List AI := [⟨none, (.build 4 [(.bool false), (.int .i64 0)] [(0, (1, (.v (.k (.c (.bool true)))))), (1, (1, (.v (.k (.c (.int .i64 1))))))])⟩, ⟨none, (.store 2 (.t 2) (.t 4))⟩]
theorem uf94r3 : type_of% @f94r3.eq_1 := id @f94r3.eq_1
def f94b4 : AQ := (.seq (.region f94r3) .ret)
theorem uf94b4 (P ts os Q) : awl P f94b4 Q ts os = awl P (.seq (.region f94r3) .ret) Q ts os := id rfl
def f94b5 : AQ := (.cond (.t 3) f94b4 .skip)
theorem uf94b5 (P ts os Q) : awl P f94b5 Q ts os = awl P (.cond (.t 3) f94b4 .skip) Q ts os := id rfl
def f94r6 : List AI := [⟨none, (.mov 3 (.t 0))⟩]
theorem uf94r6 : type_of% @f94r6.eq_1 := id @f94r6.eq_1
def f94b7 : AQ := (.seq (.region f94r6) f94b5)
theorem uf94b7 (P ts os Q) : awl P f94b7 Q ts os = awl P (.seq (.region f94r6) f94b5) Q ts os := id rfl
def f94b8 : AQ := (.seq f94b7 f94b2)
theorem uf94b8 (P ts os Q) : awl P f94b8 Q ts os = awl P (.seq f94b7 f94b2) Q ts os := id rfl
def f94r9 : List AI := [⟨none, (.alloc 2 53 [(.bool false), (.int .i64 0)])⟩]
theorem uf94r9 : type_of% @f94r9.eq_1 := id @f94r9.eq_1
def f94b10 : AQ := (.seq (.region f94r9) f94b8)
theorem uf94b10 (P ts os Q) : awl P f94b10 Q ts os = awl P (.seq (.region f94r9) f94b8) Q ts os := id rfl
def f94 : AQ := f94b10
theorem uf94 (P ts os Q) : awl P f94 Q ts os = awl P f94b10 Q ts os := id rfl
theorem hf94 : cFunc Try.prog 94 = some ⟨6, f94.erase, [(RX.cell 2 2 true)]⟩ := by kernel_rfl
theorem okf94 : f94.ok = true := by kernel_rfl
def f95r1 : List AI := [⟨none, (.mov 30 (.t 1))⟩, ⟨none, (.mov 31 (.t 2))⟩, ⟨none, (.minmax 32 true (.t 30) [(.t 31)])⟩, ⟨none, (.mov 6 (.t 32))⟩]
theorem uf95r1 : type_of% @f95r1.eq_1 := id @f95r1.eq_1
def f95b2 : AQ := (.seq (.region f95r1) .ret)
theorem uf95b2 (P ts os Q) : awl P f95b2 Q ts os = awl P (.seq (.region f95r1) .ret) Q ts os := id rfl
def f95r3 : List AI := [⟨none, (.mov 10 (.t 1))⟩, ⟨none, (.mov 11 (.t 2))⟩, ⟨none, (.bin 12 .add (.t 10) (.t 11))⟩, ⟨none, (.call (some 13) 93 [(.t 12)])⟩, ⟨none, (.mov 6 (.t 13))⟩]
theorem uf95r3 : type_of% @f95r3.eq_1 := id @f95r3.eq_1
def f95b4 : AQ := (.seq (.region f95r3) .ret)
theorem uf95b4 (P ts os Q) : awl P f95b4 Q ts os = awl P (.seq (.region f95r3) .ret) Q ts os := id rfl
def f95r5 : List AI := [⟨none, (.mov 16 (.t 1))⟩, ⟨none, (.mov 17 (.t 2))⟩, ⟨none, (.bin 18 .sub (.t 16) (.t 17))⟩, ⟨none, (.call (some 19) 93 [(.t 18)])⟩, ⟨none, (.mov 6 (.t 19))⟩]
theorem uf95r5 : type_of% @f95r5.eq_1 := id @f95r5.eq_1
def f95b6 : AQ := (.seq (.region f95r5) .ret)
theorem uf95b6 (P ts os Q) : awl P f95b6 Q ts os = awl P (.seq (.region f95r5) .ret) Q ts os := id rfl
def f95r7 : List AI := [⟨none, (.mov 22 (.t 1))⟩, ⟨none, (.mov 23 (.t 2))⟩, ⟨none, (.call (some 24) 106 [(.t 22), (.t 23)])⟩, ⟨none, (.mov 6 (.t 24))⟩]
theorem uf95r7 : type_of% @f95r7.eq_1 := id @f95r7.eq_1
def f95b8 : AQ := (.seq (.region f95r7) .ret)
theorem uf95b8 (P ts os Q) : awl P f95b8 Q ts os = awl P (.seq (.region f95r7) .ret) Q ts os := id rfl
def f95r9 : List AI := [⟨none, (.mov 27 (.t 1))⟩, ⟨none, (.mov 28 (.t 2))⟩, ⟨none, (.minmax 29 false (.t 27) [(.t 28)])⟩, ⟨none, (.mov 6 (.t 29))⟩]
theorem uf95r9 : type_of% @f95r9.eq_1 := id @f95r9.eq_1
def f95b10 : AQ := (.seq (.region f95r9) .ret)
theorem uf95b10 (P ts os Q) : awl P f95b10 Q ts os = awl P (.seq (.region f95r9) .ret) Q ts os := id rfl
def f95b11 : AQ := (.cond (.t 25) f95b10 .skip)
theorem uf95b11 (P ts os Q) : awl P f95b11 Q ts os = awl P (.cond (.t 25) f95b10 .skip) Q ts os := id rfl
def f95r12 : List AI := [⟨none, (.bin 26 .eql (.t 7) (.v (.k (.c (.int .i64 12)))))⟩, ⟨none, (.mov 25 (.t 26))⟩]
theorem uf95r12 : type_of% @f95r12.eq_1 := id @f95r12.eq_1
def f95b13 : AQ := (.seq (.region f95r12) f95b11)
theorem uf95b13 (P ts os Q) : awl P f95b13 Q ts os = awl P (.seq (.region f95r12) f95b11) Q ts os := id rfl
def f95b14 : AQ := (.cond (.t 20) f95b8 f95b13)
theorem uf95b14 (P ts os Q) : awl P f95b14 Q ts os = awl P (.cond (.t 20) f95b8 f95b13) Q ts os := id rfl
def f95r15 : List AI := [⟨none, (.bin 21 .eql (.t 7) (.v (.k (.c (.int .i64 11)))))⟩, ⟨none, (.mov 20 (.t 21))⟩]
theorem uf95r15 : type_of% @f95r15.eq_1 := id @f95r15.eq_1
def f95b16 : AQ := (.seq (.region f95r15) f95b14)
theorem uf95b16 (P ts os Q) : awl P f95b16 Q ts os = awl P (.seq (.region f95r15) f95b14) Q ts os := id rfl
def f95b17 : AQ := (.cond (.t 14) f95b6 f95b16)
theorem uf95b17 (P ts os Q) : awl P f95b17 Q ts os = awl P (.cond (.t 14) f95b6 f95b16) Q ts os := id rfl
def f95r18 : List AI := [⟨none, (.bin 15 .eql (.t 7) (.v (.k (.c (.int .i64 10)))))⟩, ⟨none, (.mov 14 (.t 15))⟩]
theorem uf95r18 : type_of% @f95r18.eq_1 := id @f95r18.eq_1
def f95b19 : AQ := (.seq (.region f95r18) f95b17)
theorem uf95b19 (P ts os Q) : awl P f95b19 Q ts os = awl P (.seq (.region f95r18) f95b17) Q ts os := id rfl
def f95b20 : AQ := (.cond (.t 8) f95b4 f95b19)
theorem uf95b20 (P ts os Q) : awl P f95b20 Q ts os = awl P (.cond (.t 8) f95b4 f95b19) Q ts os := id rfl
def f95r21 : List AI := [⟨none, (.bin 9 .eql (.t 7) (.v (.k (.c (.int .i64 9)))))⟩, ⟨none, (.mov 8 (.t 9))⟩]
theorem uf95r21 : type_of% @f95r21.eq_1 := id @f95r21.eq_1
def f95b22 : AQ := (.seq (.region f95r21) f95b20)
theorem uf95b22 (P ts os Q) : awl P f95b22 Q ts os = awl P (.seq (.region f95r21) f95b20) Q ts os := id rfl
def f95b23 : AQ := (.block 0 f95b22)
theorem uf95b23 (P ts os Q) : awl P f95b23 Q ts os = awl P (.block 0 f95b22) Q ts os := id rfl
def f95r24 : List AI := [⟨none, (.mov 7 (.t 0))⟩]
theorem uf95r24 : type_of% @f95r24.eq_1 := id @f95r24.eq_1
def f95b25 : AQ := (.seq (.region f95r24) f95b23)
theorem uf95b25 (P ts os Q) : awl P f95b25 Q ts os = awl P (.seq (.region f95r24) f95b23) Q ts os := id rfl
def f95b26 : AQ := (.seq f95b25 f95b2)
theorem uf95b26 (P ts os Q) : awl P f95b26 Q ts os = awl P (.seq f95b25 f95b2) Q ts os := id rfl
def f95r27 : List AI := [⟨none, (.mov 6 (.v (.k (.c (.int .i64 0)))))⟩]
theorem uf95r27 : type_of% @f95r27.eq_1 := id @f95r27.eq_1
def f95b28 : AQ := (.seq (.region f95r27) f95b26)
theorem uf95b28 (P ts os Q) : awl P f95b28 Q ts os = awl P (.seq (.region f95r27) f95b26) Q ts os := id rfl
def f95 : AQ := f95b28
theorem uf95 (P ts os Q) : awl P f95 Q ts os = awl P f95b28 Q ts os := id rfl
theorem hf95 : cFunc Try.prog 95 = some ⟨33, f95.erase, [(RX.t 6)]⟩ := by kernel_rfl
theorem okf95 : f95.ok = true := by kernel_rfl
def f106r1 : List AI := [⟨none, (.mov 37 (.t 7))⟩, ⟨none, (.mov 4 (.t 37))⟩]
theorem uf106r1 : type_of% @f106r1.eq_1 := id @f106r1.eq_1
def f106b2 : AQ := (.seq (.region f106r1) .ret)
theorem uf106b2 (P ts os Q) : awl P f106b2 Q ts os = awl P (.seq (.region f106r1) .ret) Q ts os := id rfl
def f106r3 : List AI := [⟨none, (.mov 35 (.t 7))⟩, ⟨none, (.un 36 .neg (.t 35))⟩, ⟨none, (.mov 4 (.t 36))⟩]
theorem uf106r3 : type_of% @f106r3.eq_1 := id @f106r3.eq_1
def f106b4 : AQ := (.seq (.region f106r3) .ret)
theorem uf106b4 (P ts os Q) : awl P f106b4 Q ts os = awl P (.seq (.region f106r3) .ret) Q ts os := id rfl
def f106b5 : AQ := (.cond (.t 34) f106b4 .skip)
theorem uf106b5 (P ts os Q) : awl P f106b5 Q ts os = awl P (.cond (.t 34) f106b4 .skip) Q ts os := id rfl
def f106r6 : List AI := [⟨none, (.mov 30 (.t 0))⟩, ⟨none, (.bin 31 .lss (.t 30) (.v (.k (.c (.int .i64 0)))))⟩, ⟨none, (.mov 32 (.t 1))⟩, ⟨none, (.bin 33 .lss (.t 32) (.v (.k (.c (.int .i64 0)))))⟩, ⟨none, (.binB 34 true (.t 31) (.t 33))⟩]
theorem uf106r6 : type_of% @f106r6.eq_1 := id @f106r6.eq_1
def f106b7 : AQ := (.seq (.region f106r6) f106b5)
theorem uf106b7 (P ts os Q) : awl P f106b7 Q ts os = awl P (.seq (.region f106r6) f106b5) Q ts os := id rfl
def f106b8 : AQ := (.seq f106b7 f106b2)
theorem uf106b8 (P ts os Q) : awl P f106b8 Q ts os = awl P (.seq f106b7 f106b2) Q ts os := id rfl
def f106r9 : List AI := [⟨none, (.mov 28 (.t 6))⟩, ⟨none, (.conv 29 .i64 (.t 28))⟩, ⟨none, (.mov 7 (.t 29))⟩]
theorem uf106r9 : type_of% @f106r9.eq_1 := id @f106r9.eq_1
def f106b10 : AQ := (.cond (.t 27) (.region f106r9) .skip)
theorem uf106b10 (P ts os Q) : awl P f106b10 Q ts os = awl P (.cond (.t 27) (.region f106r9) .skip) Q ts os := id rfl
def f106r11 : List AI := [⟨none, (.mov 22 (.t 5))⟩, ⟨none, (.bin 23 .eql (.t 22) (.v (.k (.c (.int .u64 0)))))⟩, ⟨none, (.mov 24 (.t 23))⟩, ⟨(some (24, true)), (.mov 25 (.t 6))⟩, ⟨(some (24, true)), (.bin 26 .lss (.t 25) (.v (.k (.c (.int .u64 1099511627776)))))⟩, ⟨none, (.pick 27 (.t 24) (.t 26) (.v (.k (.c (.bool false)))))⟩]
theorem uf106r11 : type_of% @f106r11.eq_1 := id @f106r11.eq_1
def f106b12 : AQ := (.seq (.region f106r11) f106b10)
theorem uf106b12 (P ts os Q) : awl P f106b12 Q ts os = awl P (.seq (.region f106r11) f106b10) Q ts os := id rfl
def f106b13 : AQ := (.seq f106b12 f106b8)
theorem uf106b13 (P ts os Q) : awl P f106b13 Q ts os = awl P (.seq f106b12 f106b8) Q ts os := id rfl
def f106r14 : List AI := [⟨none, (.mov 7 (.v (.k (.c (.int .i64 1099511627776)))))⟩]
theorem uf106r14 : type_of% @f106r14.eq_1 := id @f106r14.eq_1
def f106b15 : AQ := (.seq (.region f106r14) f106b13)
theorem uf106b15 (P ts os Q) : awl P f106b15 Q ts os = awl P (.seq (.region f106r14) f106b13) Q ts os := id rfl
def f106r16 : List AI := [⟨none, (.mov 9 (.t 0))⟩, ⟨none, (.mov 10 (.t 0))⟩, ⟨none, (.un 11 .neg (.t 10))⟩, ⟨none, (.minmax 12 true (.t 9) [(.t 11)])⟩, ⟨none, (.conv 13 .u64 (.t 12))⟩, ⟨none, (.mov 14 (.t 1))⟩, ⟨none, (.mov 15 (.t 1))⟩, ⟨none, (.un 16 .neg (.t 15))⟩, ⟨none, (.minmax 17 true (.t 14) [(.t 16)])⟩, ⟨none, (.conv 18 .u64 (.t 17))⟩, ⟨none, (.call (some 19) 108 [(.t 13), (.t 18)])⟩, ⟨none, (.mov 8 (.t 19))⟩, ⟨none, (.extr 20 (.t 8) 0)⟩, ⟨none, (.extr 21 (.t 8) 1)⟩, ⟨none, (.mov 5 (.t 20))⟩, ⟨none, (.mov 6 (.t 21))⟩]
theorem uf106r16 : type_of% @f106r16.eq_1 := id @f106r16.eq_1
def f106b17 : AQ := (.seq (.region f106r16) f106b15)
theorem uf106b17 (P ts os Q) : awl P f106b17 Q ts os = awl P (.seq (.region f106r16) f106b15) Q ts os := id rfl
def f106r18 : List AI := [⟨none, (.mov 4 (.v (.k (.c (.int .i64 0)))))⟩]
theorem uf106r18 : type_of% @f106r18.eq_1 := id @f106r18.eq_1
def f106b19 : AQ := (.seq (.region f106r18) f106b17)
theorem uf106b19 (P ts os Q) : awl P f106b19 Q ts os = awl P (.seq (.region f106r18) f106b17) Q ts os := id rfl
def f106 : AQ := f106b19
theorem uf106 (P ts os Q) : awl P f106 Q ts os = awl P f106b19 Q ts os := id rfl
theorem hf106 : cFunc Try.prog 106 = some ⟨38, f106.erase, [(RX.t 4)]⟩ := by kernel_rfl
theorem okf106 : f106.ok = true := by kernel_rfl
def f108r1 : List AI := [⟨none, (.mov 48 (.t 0))⟩, ⟨none, (.mov 49 (.t 1))⟩, ⟨none, (.bin 50 .mul (.t 48) (.t 49))⟩, ⟨none, (.mov 5 (.t 50))⟩]
theorem uf108r1 : type_of% @f108r1.eq_1 := id @f108r1.eq_1
def f108b2 : AQ := (.seq (.region f108r1) .ret)
theorem uf108b2 (P ts os Q) : awl P f108b2 Q ts os = awl P (.seq (.region f108r1) .ret) Q ts os := id rfl
def f108r3 : List AI := [⟨none, (.mov 40 (.t 7))⟩, ⟨none, (.mov 41 (.t 9))⟩, ⟨none, (.bin 42 .mul (.t 40) (.t 41))⟩, ⟨none, (.mov 43 (.t 13))⟩, ⟨none, (.bin 44 .add (.t 42) (.t 43))⟩, ⟨none, (.mov 45 (.t 12))⟩, ⟨none, (.bin 46 .shr (.t 45) (.v (.k (.c (.int .u64 32)))))⟩, ⟨none, (.bin 47 .add (.t 44) (.t 46))⟩, ⟨none, (.mov 4 (.t 47))⟩]
theorem uf108r3 : type_of% @f108r3.eq_1 := id @f108r3.eq_1
def f108b4 : AQ := (.seq (.region f108r3) f108b2)
theorem uf108b4 (P ts os Q) : awl P f108b4 Q ts os = awl P (.seq (.region f108r3) f108b2) Q ts os := id rfl
def f108r5 : List AI := [⟨none, (.mov 35 (.t 12))⟩, ⟨none, (.mov 36 (.t 6))⟩, ⟨none, (.mov 37 (.t 9))⟩, ⟨none, (.bin 38 .mul (.t 36) (.t 37))⟩, ⟨none, (.bin 39 .add (.t 35) (.t 38))⟩, ⟨none, (.mov 12 (.t 39))⟩]
theorem uf108r5 : type_of% @f108r5.eq_1 := id @f108r5.eq_1
def f108b6 : AQ := (.seq (.region f108r5) f108b4)
theorem uf108b6 (P ts os Q) : awl P f108b6 Q ts os = awl P (.seq (.region f108r5) f108b4) Q ts os := id rfl
def f108r7 : List AI := [⟨none, (.mov 33 (.t 11))⟩, ⟨none, (.bin 34 .shr (.t 33) (.v (.k (.c (.int .u64 32)))))⟩, ⟨none, (.mov 13 (.t 34))⟩]
theorem uf108r7 : type_of% @f108r7.eq_1 := id @f108r7.eq_1
def f108b8 : AQ := (.seq (.region f108r7) f108b6)
theorem uf108b8 (P ts os Q) : awl P f108b8 Q ts os = awl P (.seq (.region f108r7) f108b6) Q ts os := id rfl
def f108r9 : List AI := [⟨none, (.mov 31 (.t 11))⟩, ⟨none, (.bin 32 .and (.t 31) (.v (.k (.c (.int .u64 4294967295)))))⟩, ⟨none, (.mov 12 (.t 32))⟩]
theorem uf108r9 : type_of% @f108r9.eq_1 := id @f108r9.eq_1
def f108b10 : AQ := (.seq (.region f108r9) f108b8)
theorem uf108b10 (P ts os Q) : awl P f108b10 Q ts os = awl P (.seq (.region f108r9) f108b8) Q ts os := id rfl
def f108r11 : List AI := [⟨none, (.mov 25 (.t 7))⟩, ⟨none, (.mov 26 (.t 8))⟩, ⟨none, (.bin 27 .mul (.t 25) (.t 26))⟩, ⟨none, (.mov 28 (.t 10))⟩, ⟨none, (.bin 29 .shr (.t 28) (.v (.k (.c (.int .u64 32)))))⟩, ⟨none, (.bin 30 .add (.t 27) (.t 29))⟩, ⟨none, (.mov 11 (.t 30))⟩]
theorem uf108r11 : type_of% @f108r11.eq_1 := id @f108r11.eq_1
def f108b12 : AQ := (.seq (.region f108r11) f108b10)
theorem uf108b12 (P ts os Q) : awl P f108b12 Q ts os = awl P (.seq (.region f108r11) f108b10) Q ts os := id rfl
def f108r13 : List AI := [⟨none, (.mov 22 (.t 6))⟩, ⟨none, (.mov 23 (.t 8))⟩, ⟨none, (.bin 24 .mul (.t 22) (.t 23))⟩, ⟨none, (.mov 10 (.t 24))⟩]
theorem uf108r13 : type_of% @f108r13.eq_1 := id @f108r13.eq_1
def f108b14 : AQ := (.seq (.region f108r13) f108b12)
theorem uf108b14 (P ts os Q) : awl P f108b14 Q ts os = awl P (.seq (.region f108r13) f108b12) Q ts os := id rfl
def f108r15 : List AI := [⟨none, (.mov 20 (.t 1))⟩, ⟨none, (.bin 21 .shr (.t 20) (.v (.k (.c (.int .u64 32)))))⟩, ⟨none, (.mov 9 (.t 21))⟩]
theorem uf108r15 : type_of% @f108r15.eq_1 := id @f108r15.eq_1
def f108b16 : AQ := (.seq (.region f108r15) f108b14)
theorem uf108b16 (P ts os Q) : awl P f108b16 Q ts os = awl P (.seq (.region f108r15) f108b14) Q ts os := id rfl
def f108r17 : List AI := [⟨none, (.mov 18 (.t 1))⟩, ⟨none, (.bin 19 .and (.t 18) (.v (.k (.c (.int .u64 4294967295)))))⟩, ⟨none, (.mov 8 (.t 19))⟩]
theorem uf108r17 : type_of% @f108r17.eq_1 := id @f108r17.eq_1
def f108b18 : AQ := (.seq (.region f108r17) f108b16)
theorem uf108b18 (P ts os Q) : awl P f108b18 Q ts os = awl P (.seq (.region f108r17) f108b16) Q ts os := id rfl
def f108r19 : List AI := [⟨none, (.mov 16 (.t 0))⟩, ⟨none, (.bin 17 .shr (.t 16) (.v (.k (.c (.int .u64 32)))))⟩, ⟨none, (.mov 7 (.t 17))⟩]
theorem uf108r19 : type_of% @f108r19.eq_1 := id @f108r19.eq_1
def f108b20 : AQ := (.seq (.region f108r19) f108b18)
theorem uf108b20 (P ts os Q) : awl P f108b20 Q ts os = awl P (.seq (.region f108r19) f108b18) Q ts os := id rfl
def f108r21 : List AI := [⟨none, (.mov 14 (.t 0))⟩, ⟨none, (.bin 15 .and (.t 14) (.v (.k (.c (.int .u64 4294967295)))))⟩, ⟨none, (.mov 6 (.t 15))⟩]
theorem uf108r21 : type_of% @f108r21.eq_1 := id @f108r21.eq_1
def f108b22 : AQ := (.seq (.region f108r21) f108b20)
theorem uf108b22 (P ts os Q) : awl P f108b22 Q ts os = awl P (.seq (.region f108r21) f108b20) Q ts os := id rfl
def f108r23 : List AI := [⟨none, (.mov 4 (.v (.k (.c (.int .u64 0)))))⟩, ⟨none, (.mov 5 (.v (.k (.c (.int .u64 0)))))⟩]
theorem uf108r23 : type_of% @f108r23.eq_1 := id @f108r23.eq_1
def f108b24 : AQ := (.seq (.region f108r23) f108b22)
theorem uf108b24 (P ts os Q) : awl P f108b24 Q ts os = awl P (.seq (.region f108r23) f108b22) Q ts os := id rfl
def f108 : AQ := f108b24
theorem uf108 (P ts os Q) : awl P f108 Q ts os = awl P f108b24 Q ts os := id rfl
theorem hf108 : cFunc Try.prog 108 = some ⟨51, f108.erase, [(RX.t 4), (RX.t 5)]⟩ := by kernel_rfl
theorem okf108 : f108.ok = true := by kernel_rfl
def f9r1 : List AI := [⟨none, (.mov 48 (.t 5))⟩, ⟨none, (.mov 49 (.t 48))⟩, ⟨(some (49, true)), (.mov 50 (.t 7))⟩, ⟨(some (49, true)), (.bin 51 .eql (.t 50) (.v (.k (.c (.int .i64 0)))))⟩, ⟨none, (.pick 52 (.t 49) (.t 51) (.v (.k (.c (.bool false)))))⟩, ⟨none, (.mov 53 (.t 52))⟩, ⟨(some (53, true)), (.faddr 54 1 (.t 8))⟩, ⟨(some (53, true)), (.load 55 1 false (.t 54))⟩, ⟨(some (53, true)), (.bin 56 .geq (.t 55) (.v (.k (.c (.int .i64 (-1099511627776))))))⟩, ⟨none, (.pick 57 (.t 53) (.t 56) (.v (.k (.c (.bool false)))))⟩, ⟨none, (.mov 58 (.t 57))⟩, ⟨(some (58, true)), (.faddr 59 1 (.t 8))⟩, ⟨(some (58, true)), (.load 60 1 false (.t 59))⟩, ⟨(some (58, true)), (.bin 61 .leq (.t 60) (.v (.k (.c (.int .i64 1099511627776)))))⟩, ⟨none, (.pick 62 (.t 58) (.t 61) (.v (.k (.c (.bool false)))))⟩, ⟨none, (.mov 4 (.t 62))⟩]
theorem uf9r1 : type_of% @f9r1.eq_1 := id @f9r1.eq_1
def f9b2 : AQ := (.seq (.region f9r1) .ret)
theorem uf9b2 (P ts os Q) : awl P f9b2 Q ts os = awl P (.seq (.region f9r1) .ret) Q ts os := id rfl
def f9r3 : List AI := [⟨none, (.mov 4 (.v (.k (.c (.bool false)))))⟩]
theorem uf9r3 : type_of% @f9r3.eq_1 := id @f9r3.eq_1
def f9b4 : AQ := (.seq (.region f9r3) .ret)
theorem uf9b4 (P ts os Q) : awl P f9b4 Q ts os = awl P (.seq (.region f9r3) .ret) Q ts os := id rfl
def f9b5 : AQ := (.cond (.t 47) f9b4 .skip)
theorem uf9b5 (P ts os Q) : awl P f9b5 Q ts os = awl P (.cond (.t 47) f9b4 .skip) Q ts os := id rfl
def f9r6 : List AI := [⟨none, (.mov 36 (.t 6))⟩, ⟨none, (.bin 37 .eql (.t 36) (.v (.k (.c (.int .i64 1)))))⟩, ⟨none, (.mov 38 (.t 37))⟩, ⟨(some (38, true)), (.faddr 39 1 (.t 8))⟩, ⟨(some (38, true)), (.load 40 1 false (.t 39))⟩, ⟨(some (38, true)), (.bin 41 .neq (.t 40) (.v (.k (.c (.int .i64 0)))))⟩, ⟨none, (.pick 42 (.t 38) (.t 41) (.v (.k (.c (.bool false)))))⟩, ⟨none, (.mov 43 (.t 42))⟩, ⟨(some (43, true)), (.faddr 44 1 (.t 8))⟩, ⟨(some (43, true)), (.load 45 1 false (.t 44))⟩, ⟨(some (43, true)), (.bin 46 .neq (.t 45) (.v (.k (.c (.int .i64 1)))))⟩, ⟨none, (.pick 47 (.t 43) (.t 46) (.v (.k (.c (.bool false)))))⟩]
theorem uf9r6 : type_of% @f9r6.eq_1 := id @f9r6.eq_1
def f9b7 : AQ := (.seq (.region f9r6) f9b5)
theorem uf9b7 (P ts os Q) : awl P f9b7 Q ts os = awl P (.seq (.region f9r6) f9b5) Q ts os := id rfl
def f9b8 : AQ := (.seq f9b7 f9b2)
theorem uf9b8 (P ts os Q) : awl P f9b8 Q ts os = awl P (.seq f9b7 f9b2) Q ts os := id rfl
def f9r9 : List AI := [⟨none, (.mov 30 (.t 5))⟩, ⟨none, (.mov 31 (.t 30))⟩, ⟨(some (31, true)), (.faddr 32 1 (.t 8))⟩, ⟨(some (31, true)), (.load 33 1 false (.t 32))⟩, ⟨(some (31, true)), (.bin 34 .eql (.t 33) (.v (.k (.c (.int .i64 0)))))⟩, ⟨none, (.pick 35 (.t 31) (.t 34) (.v (.k (.c (.bool false)))))⟩, ⟨none, (.mov 4 (.t 35))⟩]
theorem uf9r9 : type_of% @f9r9.eq_1 := id @f9r9.eq_1
def f9b10 : AQ := (.seq (.region f9r9) .ret)
theorem uf9b10 (P ts os Q) : awl P f9b10 Q ts os = awl P (.seq (.region f9r9) .ret) Q ts os := id rfl
def f9b11 : AQ := (.cond (.t 29) f9b10 .skip)
theorem uf9b11 (P ts os Q) : awl P f9b11 Q ts os = awl P (.cond (.t 29) f9b10 .skip) Q ts os := id rfl
def f9r12 : List AI := [⟨none, (.faddr 27 0 (.t 8))⟩, ⟨none, (.load 28 1 false (.t 27))⟩, ⟨none, (.un 29 .not (.t 28))⟩]
theorem uf9r12 : type_of% @f9r12.eq_1 := id @f9r12.eq_1
def f9b13 : AQ := (.seq (.region f9r12) f9b11)
theorem uf9b13 (P ts os Q) : awl P f9b13 Q ts os = awl P (.seq (.region f9r12) f9b11) Q ts os := id rfl
def f9b14 : AQ := (.seq f9b13 f9b8)
theorem uf9b14 (P ts os Q) : awl P f9b14 Q ts os = awl P (.seq f9b13 f9b8) Q ts os := id rfl
def f9r15 : List AI := [⟨none, (.load 24 3 true (.t 2))⟩, ⟨none, (.mov 25 (.t 1))⟩, ⟨none, (.call (some 26) 37 [(.t 24), (.t 25)])⟩, ⟨none, (.alloc 8 53 [(.bool false), (.int .i64 0)])⟩, ⟨none, (.store 2 (.t 8) (.t 26))⟩]
theorem uf9r15 : type_of% @f9r15.eq_1 := id @f9r15.eq_1
def f9b16 : AQ := (.seq (.region f9r15) f9b14)
theorem uf9b16 (P ts os Q) : awl P f9b16 Q ts os = awl P (.seq (.region f9r15) f9b14) Q ts os := id rfl
def f9r17 : List AI := [⟨none, (.load 20 3 true (.t 2))⟩, ⟨none, (.call (some 21) 31 [(.t 20)])⟩, ⟨none, (.mov 19 (.t 21))⟩, ⟨none, (.extr 22 (.t 19) 0)⟩, ⟨none, (.extr 23 (.t 19) 1)⟩, ⟨none, (.mov 6 (.t 22))⟩, ⟨none, (.mov 7 (.t 23))⟩]
theorem uf9r17 : type_of% @f9r17.eq_1 := id @f9r17.eq_1
def f9b18 : AQ := (.seq (.region f9r17) f9b16)
theorem uf9b18 (P ts os Q) : awl P f9b18 Q ts os = awl P (.seq (.region f9r17) f9b16) Q ts os := id rfl
def f9r19 : List AI := [⟨none, (.mov 18 (.t 5))⟩, ⟨none, (.mov 4 (.t 18))⟩]
theorem uf9r19 : type_of% @f9r19.eq_1 := id @f9r19.eq_1
def f9b20 : AQ := (.seq (.region f9r19) .ret)
theorem uf9b20 (P ts os Q) : awl P f9b20 Q ts os = awl P (.seq (.region f9r19) .ret) Q ts os := id rfl
def f9b21 : AQ := (.cond (.t 17) f9b20 .skip)
theorem uf9b21 (P ts os Q) : awl P f9b21 Q ts os = awl P (.cond (.t 17) f9b20 .skip) Q ts os := id rfl
def f9r22 : List AI := [⟨none, (.load 10 3 true (.t 2))⟩, ⟨none, (.call (some 11) 30 [(.t 10)])⟩, ⟨none, (.un 12 .not (.t 11))⟩, ⟨none, (.mov 13 (.t 12))⟩, ⟨(some (13, false)), (.mov 14 (.t 1))⟩, ⟨(some (13, false)), (.len 15 (.t 14))⟩, ⟨(some (13, false)), (.bin 16 .gtr (.t 15) (.v (.k (.c (.int .i64 30)))))⟩, ⟨none, (.pick 17 (.t 13) (.v (.k (.c (.bool true)))) (.t 16))⟩]
theorem uf9r22 : type_of% @f9r22.eq_1 := id @f9r22.eq_1
def f9b23 : AQ := (.seq (.region f9r22) f9b21)
theorem uf9b23 (P ts os Q) : awl P f9b23 Q ts os = awl P (.seq (.region f9r22) f9b21) Q ts os := id rfl
def f9b24 : AQ := (.seq f9b23 f9b18)
theorem uf9b24 (P ts os Q) : awl P f9b24 Q ts os = awl P (.seq f9b23 f9b18) Q ts os := id rfl
def f9r25 : List AI := [⟨none, (.call (some 9) 29 [])⟩, ⟨none, (.mov 5 (.t 9))⟩]
theorem uf9r25 : type_of% @f9r25.eq_1 := id @f9r25.eq_1
def f9b26 : AQ := (.seq (.region f9r25) f9b24)
theorem uf9b26 (P ts os Q) : awl P f9b26 Q ts os = awl P (.seq (.region f9r25) f9b24) Q ts os := id rfl
def f9r27 : List AI := [⟨none, (.box 2 41 (.t 0))⟩, ⟨none, (.mov 4 (.v (.k (.c (.bool false)))))⟩]
theorem uf9r27 : type_of% @f9r27.eq_1 := id @f9r27.eq_1
def f9b28 : AQ := (.seq (.region f9r27) f9b26)
theorem uf9b28 (P ts os Q) : awl P f9b28 Q ts os = awl P (.seq (.region f9r27) f9b26) Q ts os := id rfl
def f9 : AQ := f9b28
theorem uf9 (P ts os Q) : awl P f9 Q ts os = awl P f9b28 Q ts os := id rfl
theorem hf9 : cFunc Try.prog 9 = some ⟨63, f9.erase, [(RX.t 4)]⟩ := by kernel_rfl
theorem okf9 : f9.ok = true := by kernel_rfl
end Go.Abs


namespace Go.Abs
theorem wrap_in {n : Int} (h1 : -9223372036854775808 ≤ n) (h2 : n ≤ 9223372036854775807) : IntKind.i64.wrap n = n := IntWalk.i64_in n ⟨h1, h2⟩
def lstC (sz : Nat) (rows : List (List C)) : C := .list (if rows.isEmpty then 0 else sz) none rows
abbrev lst (sz : Nat) (rows : List (List C)) : V := .k (.c (lstC sz rows))
def ints (l : List Int) : List (List C) := l.map fun n => [.int .i64 n]
theorem map_isEmpty {α β : Type} (f : α → β) (l : List α) : (l.map f).isEmpty = l.isEmpty := by cases l <;> rfl
theorem sz_of {α : Type} {l : List α} {i sz : Nat} (h : i < l.length) : (if l.isEmpty = true then 0 else sz) = sz := by cases l <;> simp at h ⊢
theorem map_at {α : Type} {f : α → List C} {l : List α} {i : Nat} (h : i < l.length) : (l.map f).getD i [] = f l[i] := by simp [h]
theorem map_len {α : Type} (f : α → List C) (l : List α) : (l.map f).length = l.length := by simp
theorem normRows_eq {α : Type} {f : α → List C} (hf : ∀ x, C.normRow (f x) = f x) (l : List α) : C.normRows (l.map f) = l.map f := by
  induction l with
  | nil => rfl
  | cons a l ih => simp [C.normRows, hf, ih]
theorem lstC_norm {α : Type} {f : α → List C} (hf : ∀ x, C.normRow (f x) = f x) (sz : Nat) (l : List α) : (lstC sz (l.map f)).norm = lstC sz (l.map f) := by
  unfold lstC
  simp only [C.norm, normRows_eq hf]
  cases l <;> simp
inductive Term where
  | mk (op n : Int) (args : List Term)
  deriving Inhabited
def Term.op : Term → Int | .mk o _ _ => o
def Term.n : Term → Int | .mk _ n _ => n
def Term.args : Term → List Term | .mk _ _ a => a
mutual
def encT : Term → List C
  | .mk o n a => [.int .i64 o, .int .i64 n, lstC 3 (encTs a)]
def encTs : List Term → List (List C)
  | [] => []
  | t :: l => encT t :: encTs l
end
theorem encTs_map : ∀ (l : List Term), encTs l = l.map encT
  | [] => rfl
  | t :: l => by simp [encTs, encTs_map l]
theorem encT_eq (t : Term) : encT t = [.int .i64 t.op, .int .i64 t.n, lstC 3 (t.args.map encT)] := by
  cases t with
  | mk o n a => simp [encT, Term.op, Term.n, Term.args, encTs_map]
mutual
theorem encT_norm : ∀ (t : Term), C.normRow (encT t) = encT t
  | .mk o n a => by
    simp only [encT, C.normRow, C.norm, lstC, encTs_norm a]
    cases a <;> simp [encTs]
theorem encTs_norm : ∀ (l : List Term), C.normRows (encTs l) = encTs l
  | [] => rfl
  | t :: l => by simp only [encTs, C.normRows, encT_norm t, encTs_norm l]
end
theorem encT_len (t : Term) : (encT t).length = 3 := by rw [encT_eq]; rfl
structure Choice where
  ask : Int
  by_ : Int
  whole : Bool
  deriving Inhabited
structure Rule where
  ask : Int
  term : Term
  deriving Inhabited
structure Order where
  name : List UInt8
  accepts : Bool
  choices : List Choice
  rules : List Rule
  deriving Inhabited
def encChoice (c : Choice) : List C := [.int .i64 c.ask, .int .i64 c.by_, .bool c.whole]
def encRule (r : Rule) : List C := .int .i64 r.ask :: encT r.term
def encOrder (o : Order) : List C := [.str o.name, .bool o.accepts, lstC 3 (o.choices.map encChoice), lstC 4 (o.rules.map encRule)]
theorem encChoice_norm (c : Choice) : C.normRow (encChoice c) = encChoice c := rfl
theorem encRule_norm (r : Rule) : C.normRow (encRule r) = encRule r := by simp [encRule, C.normRow, C.norm, encT_norm]
theorem encOrder_norm (o : Order) : C.normRow (encOrder o) = encOrder o := by
  simp only [encOrder, C.normRow, C.norm, lstC_norm encChoice_norm, lstC_norm encRule_norm]
structure Cell where
  known : Bool
  n : Int
  deriving Inhabited
def encCell (c : Cell) : List C := [.bool c.known, .int .i64 c.n]
theorem encCell_norm (c : Cell) : C.normRow (encCell c) = encCell c := rfl
def encI (n : Int) : List C := [.int .i64 n]
@[simp] theorem normRow_int (k : IntKind) (n : Int) : C.normRow [.int k n] = [.int k n] := rfl
@[simp] theorem normRow_encI (n : Int) : C.normRow (encI n) = encI n := rfl
attribute [simp] encT_norm encChoice_norm encRule_norm encOrder_norm encCell_norm C.normRow
@[simp] theorem norm_int (k : IntKind) (n : Int) : (C.int k n).norm = .int k n := rfl
@[simp] theorem norm_bool (b : Bool) : (C.bool b).norm = .bool b := rfl
@[simp] theorem norm_str (s : List UInt8) : (C.str s).norm = .str s := rfl
@[simp] theorem norm_ro (row : List C) (off : Nat) : (C.ro row off).norm = .ro (C.normRow row) off := rfl
@[simp] theorem norm_fn (f : FuncId) (caps : List C) : (C.fn f caps).norm = .fn f (C.normRow caps) := rfl
@[simp] theorem normRows_T (l : List Term) : C.normRows (l.map encT) = l.map encT := normRows_eq encT_norm l
@[simp] theorem normRows_Ch (l : List Choice) : C.normRows (l.map encChoice) = l.map encChoice := normRows_eq encChoice_norm l
@[simp] theorem normRows_R (l : List Rule) : C.normRows (l.map encRule) = l.map encRule := normRows_eq encRule_norm l
@[simp] theorem normRows_O (l : List Order) : C.normRows (l.map encOrder) = l.map encOrder := normRows_eq encOrder_norm l
@[simp] theorem normRows_Ce (l : List Cell) : C.normRows (l.map encCell) = l.map encCell := normRows_eq encCell_norm l
@[simp] theorem normRows_ints (l : List Int) : C.normRows (ints l) = ints l := normRows_eq (fun _ => rfl) l
@[simp] theorem normRows_nil : C.normRows [] = [] := rfl
@[simp] theorem normRows_cons (r : List C) (l : List (List C)) : C.normRows (r :: l) = C.normRow r :: C.normRows l := rfl
@[simp] theorem ints_len (l : List Int) : (ints l).length = l.length := by simp [ints]
theorem ints_at {l : List Int} {i : Nat} (h : i < l.length) : (ints l).getD i [] = [.int .i64 l[i]] := by simp [ints, h]
@[simp] theorem ints_isEmpty (l : List Int) : (ints l).isEmpty = l.isEmpty := by cases l <;> rfl
theorem ints_snoc (l : List Int) (n : Int) : ints l ++ [[.int .i64 n]] = ints (l ++ [n]) := by simp [ints]
theorem ints_append (l m : List Int) : ints l ++ ints m = ints (l ++ m) := by simp [ints]
theorem r_vLen_lst (o : Nat → Option O) (sz : Nat) (rows : List (List C)) : vLen o (.k (.c (lstC sz rows))) = some (True, .int .i64 rows.length) := rfl
theorem r_vIaddr_lst (o : Nat → Option O) (sz : Nat) (rows : List (List C)) (k : IntKind) (n : Int) : vIaddr o sz (.k (.c (lstC sz rows))) (.k (.c (.int k n))) = some (0 ≤ n ∧ n < rows.length, .k (.pel sz rows n.toNat 0)) := by
  simp only [lstC, vIaddr, Option.some.injEq, Prod.mk.injEq]
  cases rows with
  | nil => simp; omega
  | cons a l =>
    refine ⟨?_, ?_⟩
    · simp
    · simp
theorem r_srcV_lst (os : OS) (sz : Nat) (rows : List (List C)) : srcV os sz (.k (.c (lstC sz rows))) = some (True, rows) := by
  simp only [lstC, srcV]
  cases rows <;> simp
@[simp] theorem norm_lst (sz : Nat) (rows : List (List C)) : (lstC sz rows).norm = lstC sz (C.normRows rows) := by
  unfold lstC
  simp only [C.norm]
  cases rows <;> simp [C.normRows]
@[simp] theorem norm_list (sz : Nat) (nl : Option Bool) (rows : List (List C)) : (C.list sz nl rows).norm = lstC sz (C.normRows rows) := by
  unfold lstC
  simp only [C.norm]
  cases rows <;> simp [C.normRows]
theorem r_ofRow_map (r : List C) : ofRow true (r.map Abs.K.c) = .agg r := by
  simp only [ofRow, pureRow_map, if_true]
theorem r_ofRow_take {r : List C} {n : Nat} (h : r.length = n) : ofRow true (List.take n (r.map Abs.K.c)) = .agg r := by
  rw [List.take_of_length_le (by simp; omega)]; exact r_ofRow_map r
theorem r_all_noRef (d : Nat) (r : List C) : (r.map Abs.K.c).all (Abs.K.noRef d) = true := by induction r <;> simp_all [Abs.K.noRef]
theorem r_map_scrub (τ : Nat) (r : List C) : (r.map Abs.K.c).map (Abs.K.scrub τ) = r.map Abs.K.c := by simp [Abs.K.scrub]
theorem r_map_nrm (r : List C) : (r.map Abs.K.c).map Abs.K.nrm = (C.normRow r).map Abs.K.c := by
  induction r with
  | nil => rfl
  | cons a r ih => simp only [List.map_cons, ih]; rfl
theorem r_map_frz (τ : Nat) (ob : O) (r : List C) : (r.map Abs.K.c).map (Abs.K.frz τ ob) = r.map Abs.K.c := by simp [Abs.K.frz]
theorem encCell_len (r : Cell) : (encCell r).length = 2 := by simp [encCell]
theorem len_lst {sz : Nat} {rows : List (List C)} {l : List V} (hm : lst sz rows ∈ l) (h : ∀ v, v ∈ l → ∀ c, c ∈ v.topC → ∀ sz nl rows, c = .list sz nl rows → rows.length ≤ 9223372036854775807) : rows.length ≤ 9223372036854775807 :=
  h _ hm (lstC sz rows) (by simp [V.topC]) _ _ _ rfl
theorem b_tf : (true == false) = false := id rfl
theorem b_ft : (false == true) = false := id rfl
section
variable {P : Program} {f : FuncId} {vs : List V} {K : KK} {d : Nat} {ts : TS} {os : OS}
theorem call_s {args : List V} {r : V} {X : Prop} (hs : Spec P f args (fun r' => r' = r)) (hk : K (insT d r ts) os)
    (hp : vs.all (fun v => (lendL os v).isPure) = true := by simp [lendL, lendO, lookO, V.isPure])
    (ha : vs.map (fun v => (lendL os v).norm) = args := by simp [lendL, lendO, lookO, V.norm, encT_eq, encRule, encOrder, encChoice, encCell, norm_list, lst]) (hr : r.scalar = true := by rfl) : callK P f vs [] K (some d) ts os ∨ X := by
  refine .inl ⟨hp, r, .inl ?_, ?_⟩
  · simpa [ha] using hs
  · rw [if_pos hr]; exact hk
theorem call_r {args : List V} {r : V} {X : Prop} (hs : Spec P f args (fun r' => r' = r)) (hk : retK r K ts os (some d))
    (hp : vs.all (fun v => (lendL os v).isPure) = true := by simp [lendL, lendO, lookO, V.isPure])
    (ha : vs.map (fun v => (lendL os v).norm) = args := by simp [lendL, lendO, lookO, V.norm, encT_eq, encRule, encOrder, encChoice, encCell, norm_list, lst])
    (ht : vs.all (fun v => v.toks.isEmpty) = true := by simp [V.toks, K.toks]) (hr : r.scalar = false := by rfl) : callK P f vs [] K (some d) ts os ∨ X := by
  refine .inl ⟨hp, r, .inl (by simpa [ha] using hs), ?_⟩
  rw [if_neg (by simp [hr])]
  exact ⟨ht, hk⟩
theorem call_l {args : List V} {e sz : Nat} {nl : Option Bool} {rows : List (List C)} {X : Prop} (hs : Spec P f args (fun r' => r' = .k (.newl e sz nl rows))) (hk : K (insT d (.k (.own d)) ts) (insO d (.arr e sz nl rows) os))
    (hp : vs.all (fun v => (lendL os v).isPure) = true := by simp [lendL, lendO, lookO, V.isPure])
    (ha : vs.map (fun v => (lendL os v).norm) = args := by simp [lendL, lendO, lookO, V.norm, encT_eq, encRule, encOrder, encChoice, encCell, norm_list, lst])
    (ht : vs.all (fun v => v.toks.isEmpty) = true := by simp [V.toks, K.toks]) (hf : freeB d ts os := by first | rfl | simp [freeB, freeT, freeO, V.noRef, V.noRefL, O.noRef, Abs.K.noRef, r_all_noRef]) : callK P f vs [] K (some d) ts os ∨ X := by
  refine .inl ⟨hp, _, .inl (by simpa [ha] using hs), ?_⟩
  rw [if_neg (by simp [V.scalar])]
  refine ⟨ht, ?_⟩
  show regK _ _ _ _ _ _
  refine ⟨⟨⟨hf, .inl rfl⟩, trivial⟩, hk⟩
theorem callQ_s {args : List V} {r : V} (hs : Spec P f args (fun r' => r' = r)) (hk : K (insT d r.fz ts) os)
    (hp : vs.all (fun v => (lendL os v).isPure) = true := by simp [lendL, lendO, lookO, V.isPure])
    (ha : vs.map (fun v => (lendL os v).norm) = args := by simp [lendL, lendO, lookO, V.norm, encT_eq, encRule, encOrder, encChoice, encCell, norm_list, lst]) (hr : r.scalar = true := by rfl) : callQK P f vs [] K d ts os :=
  ⟨hp, r, by simpa [ha] using hs, .inl hr, hk⟩
theorem callQ_l {args : List V} {r : V} (hs : Spec P f args (fun r' => r' = r)) (hk : K (insT d r.fz ts) os)
    (hp : vs.all (fun v => (lendL os v).isPure) = true := by simp [lendL, lendO, lookO, V.isPure])
    (ha : vs.map (fun v => (lendL os v).norm) = args := by simp [lendL, lendO, lookO, V.norm, encT_eq, encRule, encOrder, encChoice, encCell, norm_list, lst]) (hr : vs.all (fun v => v.toks.isEmpty) = true := by simp [V.toks, K.toks]) : callQK P f vs [] K d ts os :=
  ⟨hp, r, by simpa [ha] using hs, .inr hr, hk⟩
theorem call_scalar {args : List V} {r : V} {X : Prop} (hs : Spec P f args (fun r' => r' = r)) (hp : vs.all (fun v => (lendL os v).isPure) = true) (ha : vs.map (fun v => (lendL os v).norm) = args) (hr : r.scalar = true)
    (hk : K (insT d r ts) os) : callK P f vs [] K (some d) ts os ∨ X := by
  refine .inl ⟨hp, r, .inl ?_, ?_⟩
  · simpa [ha] using hs
  · rw [if_pos hr]; exact hk
theorem callQ_scalar {args : List V} {r : V} (hs : Spec P f args (fun r' => r' = r)) (hp : vs.all (fun v => (lendL os v).isPure) = true) (ha : vs.map (fun v => (lendL os v).norm) = args) (hr : r.scalar = true)
    (hk : K (insT d r.fz ts) os) : callQK P f vs [] K d ts os :=
  ⟨hp, r, by simpa [ha] using hs, .inl hr, hk⟩
end
end Go.Abs


namespace Go.Abs
section
variable {P : Program}
theorem shape_int {n : Nat} {t : TypeId} {r : List C} {k : IntKind} (hu : P.underlying t = some (.int k)) (h : Shape P n t r) : ∃ m : Int, r = [.int k m] ∧ (Lit.int k m).wf = true := by
  cases n with
  | zero => exact h.elim
  | succ n => simp only [Shape, hu] at h; exact h
theorem shape_bool {n : Nat} {t : TypeId} {r : List C} (hu : P.underlying t = some .bool) (h : Shape P n t r) : ∃ b : Bool, r = [.bool b] := by
  cases n with
  | zero => exact h.elim
  | succ n => simp only [Shape, hu] at h; exact h
theorem shape_slice {n : Nat} {t e : TypeId} {r : List C} (hu : P.underlying t = some (.slice e)) (h : Shape P n t r) : ∃ m rows, n = m + 1 ∧ r = [lstC (P.cellsOf e) rows] ∧ rows.length ≤ 9223372036854775807 ∧ ∀ x ∈ rows, Shape P m e x := by
  cases n with
  | zero => exact h.elim
  | succ n => simp only [Shape, hu] at h; obtain ⟨rows, h1, h2, h3⟩ := h; exact ⟨n, rows, rfl, h1, h2, h3⟩
theorem shape_struct {n : Nat} {t : TypeId} {fs : Array Field} {r : List C} (hu : P.underlying t = some (.struct fs)) (h : Shape P n t r) : ∃ m rs, n = m + 1 ∧ r = rs.flatten ∧ ShapeL (Shape P m) (fs.toList.map (·.type)) rs := by
  cases n with
  | zero => exact h.elim
  | succ n => simp only [Shape, hu] at h; obtain ⟨rs, h1, h2⟩ := h; exact ⟨n, rs, rfl, h1, h2⟩
theorem shapeL2 {S : TypeId → List C → Prop} {a b : TypeId} {rs : List (List C)} (h : ShapeL S [a, b] rs) : ∃ x y, rs = [x, y] ∧ S a x ∧ S b y := by
  match rs, h with
  | [x, y], h => exact ⟨x, y, rfl, h.1, h.2.1⟩
theorem shapeL3 {S : TypeId → List C → Prop} {a b c : TypeId} {rs : List (List C)} (h : ShapeL S [a, b, c] rs) : ∃ x y z, rs = [x, y, z] ∧ S a x ∧ S b y ∧ S c z := by
  match rs, h with
  | [x, y, z], h => exact ⟨x, y, z, rfl, h.1, h.2.1, h.2.2.1⟩
theorem rows_of {α : Type} {S : List C → Prop} (enc : α → List C) (hS : ∀ r, S r → ∃ a, r = enc a) : ∀ (rows : List (List C)), (∀ r ∈ rows, S r) → ∃ l : List α, rows = l.map enc
  | [], _ => ⟨[], rfl⟩
  | r :: rows, h => by
    obtain ⟨a, ha⟩ := hS r (h r (by simp))
    obtain ⟨l, hl⟩ := rows_of enc hS rows (fun x hx => h x (by simp [hx]))
    exact ⟨a :: l, by rw [ha, hl]; rfl⟩
structure TermTypes (P : Program) (tI tB tS tT tLT tR tLR tC tLC tO : TypeId) : Prop where
  i : P.underlying tI = some (.int .i64)
  b : P.underlying tB = some .bool
  s : P.underlying tS = some .string
  t : ∃ fs, P.underlying tT = some (.struct fs) ∧ fs.toList.map (·.type) = [tI, tI, tLT]
  lt : P.underlying tLT = some (.slice tT) ∧ P.cellsOf tT = 3
  r : ∃ fs, P.underlying tR = some (.struct fs) ∧ fs.toList.map (·.type) = [tI, tT]
  lr : P.underlying tLR = some (.slice tR) ∧ P.cellsOf tR = 4
  c : ∃ fs, P.underlying tC = some (.struct fs) ∧ fs.toList.map (·.type) = [tI, tI, tB]
  lc : P.underlying tLC = some (.slice tC) ∧ P.cellsOf tC = 3
  o : ∃ fs, P.underlying tO = some (.struct fs) ∧ fs.toList.map (·.type) = [tS, tB, tLC, tLR]
variable {tI tB tS tT tLT tR tLR tC tLC tO : TypeId}
theorem shape_term (h : TermTypes P tI tB tS tT tLT tR tLR tC tLC tO) : ∀ (n : Nat) (r : List C), Shape P n tT r → ∃ t : Term, r = encT t := by
  intro n
  induction n using Nat.strongRecOn with
  | ind n ih =>
    intro r hr
    obtain ⟨fs, hf, hl⟩ := h.t
    obtain ⟨m, rs, rfl, rfl, hs⟩ := shape_struct hf hr
    rw [hl] at hs
    obtain ⟨x, y, z, rfl, h1, h2, h3⟩ := shapeL3 hs
    obtain ⟨op, rfl, _⟩ := shape_int h.i h1
    obtain ⟨k, rfl, _⟩ := shape_int h.i h2
    obtain ⟨m', rows, rfl, rfl, _, h4⟩ := shape_slice h.lt.1 h3
    obtain ⟨l, rfl⟩ := rows_of encT (fun r hr => ih m' (by omega) r hr) rows h4
    exact ⟨.mk op k l, by rw [encT_eq, h.lt.2]; rfl⟩
theorem arg_term (h : TermTypes P tI tB tS tT tLT tR tLR tC tLC tO) {n : Nat} {r : List C} (hr : Shape P n tT r) : ∃ x : Term, argV P tT r = .agg (encT x) := by
  obtain ⟨x, rfl⟩ := shape_term h n r hr
  obtain ⟨fs, hf, _⟩ := h.t
  exact ⟨x, by simp only [argV, hf]⟩
end
end Go.Abs


namespace Go.Abs
section
variable {P : Program}
theorem shape_cell {n : Nat} {t tB tI : TypeId} {fs : Array Field} {r : List C} (ht : P.underlying t = some (.struct fs)) (hf : fs.toList.map (·.type) = [tB, tI]) (hb : P.underlying tB = some .bool) (hi : P.underlying tI = some (.int .i64)) (hr : Shape P n t r) : ∃ c : Cell, r = encCell c := by
  obtain ⟨m, rs, rfl, rfl, hs⟩ := shape_struct ht hr
  rw [hf] at hs
  obtain ⟨x, y, rfl, h1, h2⟩ := shapeL2 hs
  obtain ⟨b, rfl⟩ := shape_bool hb h1
  obtain ⟨k, rfl, _⟩ := shape_int hi h2
  exact ⟨⟨b, k⟩, rfl⟩
theorem arg_cells {n : Nat} {t e tB tI : TypeId} {fs : Array Field} {r : List C} (ht : P.underlying t = some (.slice e)) (he : P.underlying e = some (.struct fs)) (hf : fs.toList.map (·.type) = [tB, tI]) (hb : P.underlying tB = some .bool) (hi : P.underlying tI = some (.int .i64)) (hc : P.cellsOf e = 2)
    (hr : Shape P n t r) : ∃ l : List Cell, argV P t r = lst 2 (l.map encCell) := by
  obtain ⟨m, rows, rfl, rfl, _, h⟩ := shape_slice ht hr
  obtain ⟨l, rfl⟩ := rows_of encCell (fun r hr => shape_cell he hf hb hi hr) rows h
  exact ⟨l, by simp only [argV, ht, hc]⟩
def encB (b : Bool) : List C := [.bool b]
end
end Go.Abs


namespace Go.Abs
def cut (n : Int) : Int := min (max n (-1099511627776)) 1099511627776
theorem cut_eq (n : Int) : cut n = n ↔ -1099511627776 ≤ n ∧ n ≤ 1099511627776 := by unfold cut; omega
def varType (v : Int) : Option Int := if v < 0 ∨ v > 19 then none else if v < 7 then some 0 else some 1
def varTypeV (v : Int) : V := .tup [.int .i64 ((varType v).getD 0), .bool (varType v).isSome]
def leaf (t : Term) : Int × Int :=
  if t.args.length > 0 then (0, 2) else if t.op = 0 then (if cut t.n ≠ t.n then (0, 3) else (0, 0)) else if t.op = 1 then (if t.n < 0 ∨ t.n > 1 then (0, 3) else (1, 0))
  else match varType t.n with | none => (0, 10) | some k => (k, 0)
def pairV (p : Int × Int) : V := .tup [.int .i64 p.1, .int .i64 p.2]
def arity (op : Int) : Int := if op = 0 ∨ op = 1 ∨ op = 2 then 0 else if op = 3 then 1 else if op = 6 then 3 else 2
mutual
def nodes : Term → Int → Int → Int
  | .mk _ _ a, k, lv => if lv < 1 then -1 else nodesL a (k - 1) (lv - 1)
def nodesL : List Term → Int → Int → Int
  | [], k, _ => k
  | t :: l, k, lv => if k < 0 then k else nodesL l (nodes t k lv) lv
end
theorem nodes_eq (t : Term) (k lv : Int) : nodes t k lv = if lv < 1 then -1 else nodesL t.args (k - 1) (lv - 1) := by cases t; simp [nodes, Term.args]
mutual
theorem nodes_bd : ∀ (t : Term) (k lv : Int), 0 ≤ k → -1 ≤ nodes t k lv ∧ nodes t k lv ≤ k
  | .mk _ _ a, k, lv, h => by
    simp only [nodes]
    split
    · omega
    · have := nodesL_bd a (k - 1) (lv - 1) (by omega); omega
theorem nodesL_bd : ∀ (l : List Term) (k lv : Int), -1 ≤ k → -1 ≤ nodesL l k lv ∧ nodesL l k lv ≤ k
  | [], k, lv, h => by simp [nodesL, h]
  | t :: l, k, lv, h => by
    simp only [nodesL]
    split
    · omega
    · have h1 := nodes_bd t k lv (by omega)
      have := nodesL_bd l (nodes t k lv) lv h1.1
      omega
end
theorem nodesL_drop {l : List Term} {i : Nat} (h : i < l.length) (k lv : Int) : nodesL (l.drop i) k lv = if k < 0 then k else nodesL (l.drop (i + 1)) (nodes l[i] k lv) lv := by
  rw [List.drop_eq_getElem_cons h, nodesL]
theorem nodesL_neg (l : List Term) (k lv : Int) (h : k < 0) : nodesL l k lv = k := by
  cases l <;> simp [nodesL, h]
theorem norm_T (t : Term) : C.normRow [C.int .i64 t.op, C.int .i64 t.n, C.list (if (List.map encT t.args).isEmpty = true then 0 else 3) none (List.map encT t.args)] = encT t := by
  have h := encT_norm t
  rw [encT_eq] at h
  exact h.trans (encT_eq t).symm
def measL (m : Term → Int) : List Term → Int → Int
  | [], n => n
  | a :: l, n => if n + m a > 60 then n + m a else measL m l (n + m a)
def meas : Nat → Term → Int
  | 0, _ => 61
  | f + 1, t => measL (meas f) t.args 1
theorem measL_bd {m : Term → Int} {M : Int} (hm : ∀ a, 1 ≤ m a ∧ m a ≤ M) (hM : 1 ≤ M) : ∀ (l : List Term) (n : Int), 1 ≤ n → n ≤ 60 → 1 ≤ measL m l n ∧ measL m l n ≤ 60 + M
  | [], n, h1, h2 => by simp only [measL]; omega
  | a :: l, n, h1, h2 => by
    simp only [measL]
    have := hm a
    split
    · omega
    · exact measL_bd hm hM l _ (by omega) (by omega)
theorem meas_bd : ∀ (f : Nat) (t : Term), 1 ≤ meas f t ∧ meas f t ≤ 61 + 60 * f
  | 0, t => by simp [meas]
  | f + 1, t => by
    have := measL_bd (m := meas f) (M := 61 + 60 * f) (meas_bd f) (by omega) t.args 1 (by omega) (by omega)
    simp only [meas]
    omega
theorem measL_drop {m : Term → Int} {l : List Term} {i : Nat} (h : i < l.length) (n : Int) : measL m (l.drop i) n = if n + m l[i] > 60 then n + m l[i] else measL m (l.drop (i + 1)) (n + m l[i]) := by
  rw [List.drop_eq_getElem_cons h, measL]
def shapeArgs (op : Int) : List Int := if op = 3 then [1] else if op = 4 ∨ op = 5 then [1, 1] else if op = 6 then [1, -1, -1] else if op = 7 then [0, 0] else if op = 8 then [-1, -1] else [0, 0]
def shapeRes (op : Int) : Int := if op = 3 then 1 else if op = 4 ∨ op = 5 then 1 else if op = 6 then -1 else if op = 7 then 1 else if op = 8 then 1 else 0
def shapeV (op : Int) : V := .agk [.newl 3 1 none (ints (shapeArgs op)), .c (.int .i64 (shapeRes op))]
def fit : List Int → List Int → Int → Option Int
  | [], _, c => some c
  | _, [], c => some c
  | w :: ws, ty :: tys, c =>
    let c' := if w = -1 ∧ c = -1 then ty else c
    if ty ≠ (if w = -1 then c' else w) then none else fit ws tys c'
def node (t : Term) (tys : List Int) : Int × Int :=
  if t.op < 0 ∨ t.op > 13 then (0, 1) else if t.op = 0 ∨ t.op = 1 ∨ t.op = 2 then leaf t
  else if tys.length ≠ (shapeArgs t.op).length ∨ t.n ≠ 0 then (0, 2)
  else match fit (shapeArgs t.op) tys (-1) with
    | none => (0, 11)
    | some c => if shapeRes t.op = -1 then (c, 0) else (shapeRes t.op, 0)
mutual
def chk : Term → Int × Int
  | .mk o n a => if (chkA a []).1 ≠ 0 then (0, (chkA a []).1) else node (.mk o n a) (chkA a []).2
def chkA : List Term → List Int → Int × List Int
  | [], ty => (0, ty)
  | t :: l, ty => if (chk t).2 ≠ 0 then ((chk t).2, []) else chkA l (ty ++ [(chk t).1])
end
theorem chk_eq (t : Term) : chk t = if (chkA t.args []).1 ≠ 0 then (0, (chkA t.args []).1) else node t (chkA t.args []).2 := by cases t; simp only [chk, Term.args]; rfl
theorem chkA_drop {l : List Term} {i : Nat} (h : i < l.length) (ty : List Int) : chkA (l.drop i) ty = if (chk l[i]).2 ≠ 0 then ((chk l[i]).2, []) else chkA (l.drop (i + 1)) (ty ++ [(chk l[i]).1]) := by
  rw [List.drop_eq_getElem_cons h, chkA]
def Narrow : Nat → Term → Prop
  | 0, _ => False
  | f + 1, t => t.args.length ≤ 1000 ∧ ∀ a ∈ t.args, Narrow f a
theorem set_at {l : List Int} {n : Nat} {x : Int} {i : Nat} (hl : l.length = i) (h : i < n) :
    (ints l ++ List.replicate (n - i) [C.int .i64 0]).set i [C.int .i64 x] = ints (l ++ [x]) ++ List.replicate (n - (i + 1)) [C.int .i64 0] := by
  obtain ⟨m, hm⟩ : ∃ m, n - i = m + 1 := ⟨n - i - 1, by omega⟩
  have hm2 : n - (i + 1) = m := by omega
  rw [hm, hm2, List.replicate_succ, List.set_append_right _ _ (by simp [ints, hl])]
  simp [ints, hl]
theorem fit_drop {ws tys : List Int} {j : Nat} (h1 : j < ws.length) (h2 : j < tys.length) (c : Int) : fit (ws.drop j) (tys.drop j) c =
    if tys[j] ≠ (if ws[j] = -1 then (if ws[j] = -1 ∧ c = -1 then tys[j] else c) else ws[j]) then none else fit (ws.drop (j + 1)) (tys.drop (j + 1)) (if ws[j] = -1 ∧ c = -1 then tys[j] else c) := by
  rw [List.drop_eq_getElem_cons h1, List.drop_eq_getElem_cons h2, fit]
theorem fit_end (ws tys : List Int) (c : Int) (h : ws = []) : fit ws tys c = some c := by subst h; cases tys <;> rfl
theorem shape_small (op : Int) : (shapeArgs op).length ≤ 3 := by unfold shapeArgs; (repeat' split) <;> simp
end Go.Abs


namespace Go.Abs
theorem Term.ind {P : Term → Prop} (h : ∀ o n a, (∀ x ∈ a, P x) → P (.mk o n a)) : ∀ t, P t := by
  have key : ∀ k, ∀ t : Term, SizeOf.sizeOf t < k → P t := by
    intro k
    induction k with
    | zero => intro t ht; omega
    | succ k ih =>
      rintro ⟨o, n, a⟩ ht
      refine h o n a fun x hx => ih x ?_
      have := List.sizeOf_lt_of_mem hx
      simp at ht
      omega
  exact fun t => key _ t (Nat.lt_succ_self _)
def checkT (t : Term) : Int × Int := if nodes t 60 8 < 0 then (0, 6) else chk t
def few (t : Term) : Bool := decide (nodes t 100 20 ≥ 0)
theorem measL_ge {m : Term → Int} (hm : ∀ a, 1 ≤ m a) : ∀ (l : List Term) (n : Int), n ≤ measL m l n
  | [], n => by simp [measL]
  | b :: l, n => by
    have := hm b
    have := measL_ge hm l (n + m b)
    simp only [measL]; split <;> omega
theorem meas_nodes : ∀ (f : Nat),
    (∀ (t : Term) (c : Int), 0 ≤ c → c < 60 → (nodes t (60 - c) f < 0 ↔ c + meas f t > 60) ∧ (0 ≤ nodes t (60 - c) f → nodes t (60 - c) f = 60 - c - meas f t)) ∧
    (∀ (l : List Term) (c n : Int), 0 ≤ c → 1 ≤ n → c + n ≤ 60 → (nodesL l (60 - c - n) f < 0 ↔ c + measL (meas f) l n > 60) ∧ (0 ≤ nodesL l (60 - c - n) f → nodesL l (60 - c - n) f = 60 - c - measL (meas f) l n)) := by
  intro f
  induction f with
  | zero =>
    have h1 : ∀ (t : Term) (c : Int), 0 ≤ c → c < 60 → (nodes t (60 - c) ((0 : Nat) : Int) < 0 ↔ c + meas 0 t > 60) ∧ (0 ≤ nodes t (60 - c) ((0 : Nat) : Int) → nodes t (60 - c) ((0 : Nat) : Int) = 60 - c - meas 0 t) := by
      intro t c hc h60
      rw [nodes_eq, if_pos (by omega)]
      simp only [meas]
      omega
    refine ⟨h1, fun l => ?_⟩
    cases l with
    | nil =>
      intro c n hc hn h
      show (60 - c - n < 0 ↔ c + n > 60) ∧ (0 ≤ 60 - c - n → 60 - c - n = 60 - c - n)
      exact ⟨by omega, fun _ => rfl⟩
    | cons a l =>
      intro c n hc hn h
      have e1 : nodes a (60 - c - n) ((0 : Nat) : Int) = -1 := by rw [nodes_eq, if_pos (by omega)]
      have h0 : ¬ (60 - c - n < 0) := by omega
      have h6 : n + 61 > 60 := by omega
      simp only [nodesL, measL, meas, e1, if_neg h0, if_pos h6]
      rw [nodesL_neg _ _ _ (by omega)]
      omega
  | succ f ih =>
    have h1 : ∀ (t : Term) (c : Int), 0 ≤ c → c < 60 → (nodes t (60 - c) ((f + 1 : Nat) : Int) < 0 ↔ c + meas (f + 1) t > 60) ∧ (0 ≤ nodes t (60 - c) ((f + 1 : Nat) : Int) → nodes t (60 - c) ((f + 1 : Nat) : Int) = 60 - c - meas (f + 1) t) := by
      intro t c hc h60
      rw [nodes_eq, if_neg (by omega)]
      have := ih.2 t.args c 1 hc (by omega) (by omega)
      have e : ((f + 1 : Nat) : Int) - 1 = (f : Nat) := by omega
      rw [e]
      simp only [meas]
      exact this
    refine ⟨h1, fun l => ?_⟩
    induction l with
    | nil =>
      intro c n hc hn h
      show (60 - c - n < 0 ↔ c + n > 60) ∧ (0 ≤ 60 - c - n → 60 - c - n = 60 - c - n)
      exact ⟨by omega, fun _ => rfl⟩
    | cons a l ihl =>
      intro c n hc hn h
      simp only [nodesL, measL]
      rw [if_neg (by omega)]
      have hm := (meas_bd (f + 1) a).1
      by_cases hb : c + n = 60
      · have e0 : 60 - c - n = 0 := by omega
        have hn : nodes a (60 - c - n) ((f + 1 : Nat) : Int) < 0 := by
          have := (nodes_bd a (60 - c - n) ((f + 1 : Nat) : Int) (by omega))
          rw [nodes_eq, if_neg (by omega), nodesL_neg _ _ _ (by omega)]; omega
        rw [nodesL_neg _ _ _ hn]
        split
        · have := (nodes_bd a (60 - c - n) ((f + 1 : Nat) : Int) (by omega)).1; omega
        · have := measL_ge (m := meas (f + 1)) (fun a => (meas_bd (f + 1) a).1) l (n + meas (f + 1) a)
          have := (nodes_bd a (60 - c - n) ((f + 1 : Nat) : Int) (by omega)).1
          omega
      · obtain ⟨g1, g2⟩ := h1 a (c + n) (by omega) (by omega)
        have e1 : 60 - (c + n) = 60 - c - n := by omega
        rw [e1] at g1 g2
        by_cases hneg : nodes a (60 - c - n) ((f + 1 : Nat) : Int) < 0
        · rw [nodesL_neg _ _ _ hneg]
          have := g1.1 hneg
          split
          · omega
          · have := measL_ge (m := meas (f + 1)) (fun a => (meas_bd (f + 1) a).1) l (n + meas (f + 1) a)
            omega
        · have e2 := g2 (by omega)
          rw [e2]
          have hnb : ¬ (c + n + meas (f + 1) a > 60) := fun h => hneg (g1.2 h)
          rw [if_neg (by omega)]
          have := ihl c (n + meas (f + 1) a) hc (by omega) (by omega)
          have e3 : 60 - c - (n + meas (f + 1) a) = 60 - (c + n) - meas (f + 1) a := by omega
          rw [e3] at this
          have e4 : 60 - c - n - meas (f + 1) a = 60 - (c + n) - meas (f + 1) a := by omega
          rw [e4]; exact this
theorem meas_check (t : Term) : meas 8 t > 60 ↔ nodes t 60 8 < 0 := by
  have := ((meas_nodes 8).1 t 0 (by omega) (by omega)).1
  simp only [Int.sub_zero, Int.zero_add] at this
  exact this.symm
theorem nodesL_len : ∀ (l : List Term) (k lv : Int), 0 ≤ nodesL l k lv → (l.length : Int) ≤ k
  | [], k, lv, h => by simpa [nodesL] using h
  | t :: l, k, lv, h => by
    simp only [nodesL] at h
    split at h
    · omega
    · have h1 := nodesL_len l _ lv h
      have h2 : nodes t k lv ≤ k - 1 := by
        rw [nodes_eq]
        split
        · omega
        · have := (nodesL_bd t.args (k - 1) (lv - 1) (by omega)).2; omega
      simp only [List.length_cons]
      omega
theorem nodesL_mem : ∀ (l : List Term) (k lv : Int), 0 ≤ nodesL l k lv → ∀ a ∈ l, ∃ k', k' ≤ k ∧ 0 ≤ nodes a k' lv
  | [], _, _, _, a, h => by simp at h
  | t :: l, k, lv, h, a, ha => by
    simp only [nodesL] at h
    split at h
    · omega
    · rcases List.mem_cons.1 ha with rfl | ha
      · refine ⟨k, Int.le_refl _, ?_⟩
        by_cases hn : nodes a k lv < 0
        · rw [nodesL_neg _ _ _ hn] at h; omega
        · omega
      · obtain ⟨k', h1, h2⟩ := nodesL_mem l _ lv h a ha
        have := (nodes_bd t k lv (by omega)).2
        exact ⟨k', by omega, h2⟩
theorem narrow_of : ∀ (f : Nat) (t : Term) (k : Int), k ≤ 1000 → 0 ≤ nodes t k f → Narrow f t
  | 0, t, k, _, h => by rw [nodes_eq] at h; simp at h
  | f + 1, t, k, hk, h => by
    rw [nodes_eq, if_neg (by omega)] at h
    have e : ((f + 1 : Nat) : Int) - 1 = (f : Nat) := by omega
    rw [e] at h
    have := nodesL_len _ _ _ h
    refine ⟨by omega, fun a ha => ?_⟩
    obtain ⟨k', h1, h2⟩ := nodesL_mem _ _ _ h a ha
    exact narrow_of f a k' (by omega) h2
mutual
def used : Term → Int → Bool
  | .mk o n a, v => if o = 2 then decide (n = v) else usedL a v
def usedL : List Term → Int → Bool
  | [], _ => false
  | t :: l, v => if used t v = true then true else usedL l v
end
theorem used_eq (t : Term) (v : Int) : used t v = if t.op = 2 then decide (t.n = v) else usedL t.args v := by cases t; simp only [used, Term.op, Term.n, Term.args]; rfl
mutual
def coll : Term → List Int → List Int
  | .mk o n a, acc => collL a (if o = 2 then acc ++ [n] else acc)
def collL : List Term → List Int → List Int
  | [], acc => acc
  | t :: l, acc => collL l (coll t acc)
end
theorem coll_eq (t : Term) (acc : List Int) : coll t acc = collL t.args (if t.op = 2 then acc ++ [t.n] else acc) := by cases t; simp only [coll, Term.op, Term.n, Term.args]; rfl
theorem collL_drop {l : List Term} {i : Nat} (h : i < l.length) (acc : List Int) : collL (l.drop i) acc = collL (l.drop (i + 1)) (coll l[i] acc) := by
  rw [List.drop_eq_getElem_cons h, collL]
def upto (n : Nat) : List Int := (List.range n).map fun (i : Nat) => (i : Int)
def varsT (t : Term) : List Int := if (checkT t).2 ≠ 0 then [] else (upto 20).filter (used t)
def valueC (v : Int) (cells : List Cell) : Cell :=
  if v < 0 ∨ v ≥ cells.length then ⟨false, 0⟩
  else if (cells.getD v.toNat ⟨false, 0⟩).known = false then ⟨false, 0⟩
  else if (varType v).getD 0 = 0 then ⟨true, cut (cells.getD v.toNat ⟨false, 0⟩).n⟩
  else if (cells.getD v.toNat ⟨false, 0⟩).n ≠ 0 then ⟨true, 1⟩ else ⟨true, 0⟩
def yes (b : Bool) : Cell := if b then ⟨true, 1⟩ else ⟨true, 0⟩
def logic (a b : Cell) (alone : Int) : Cell :=
  if a.known = true ∧ a.n = alone ∨ b.known = true ∧ b.n = alone then ⟨true, alone⟩
  else if a.known = true ∧ b.known = true then ⟨true, 1 - alone⟩ else ⟨false, 0⟩
def times (a b : Int) : Int := cut (a * b)
def number (op a b : Int) : Cell :=
  if op = 7 then yes (decide (a < b)) else if op = 8 then yes (decide (a = b)) else if op = 9 then ⟨true, cut (a + b)⟩ else if op = 10 then ⟨true, cut (a - b)⟩
  else if op = 11 then ⟨true, times a b⟩ else if op = 12 then ⟨true, min a b⟩ else ⟨true, max a b⟩
def evalN (op : Int) (l : List Cell) : Cell :=
  if op = 3 then (if (l.getD 0 ⟨false, 0⟩).known = false then ⟨false, 0⟩ else ⟨true, 1 - (l.getD 0 ⟨false, 0⟩).n⟩)
  else if op = 4 then logic (l.getD 0 ⟨false, 0⟩) (l.getD 1 ⟨false, 0⟩) 0
  else if op = 5 then logic (l.getD 0 ⟨false, 0⟩) (l.getD 1 ⟨false, 0⟩) 1
  else if op = 6 then
    (if (l.getD 0 ⟨false, 0⟩).known = true then l.getD (2 - (l.getD 0 ⟨false, 0⟩).n).toNat ⟨false, 0⟩
     else if (l.getD 1 ⟨false, 0⟩).known = true ∧ (l.getD 2 ⟨false, 0⟩).known = true ∧ (l.getD 1 ⟨false, 0⟩).n = (l.getD 2 ⟨false, 0⟩).n then l.getD 1 ⟨false, 0⟩ else ⟨false, 0⟩)
  else if (l.getD 0 ⟨false, 0⟩).known = false ∨ (l.getD 1 ⟨false, 0⟩).known = false then ⟨false, 0⟩
  else number op (l.getD 0 ⟨false, 0⟩).n (l.getD 1 ⟨false, 0⟩).n
mutual
def eval : Term → List Cell → Cell
  | .mk o n a, cells => if o = 0 ∨ o = 1 then ⟨true, n⟩ else if o = 2 then valueC n cells else evalN o (evalL a cells)
def evalL : List Term → List Cell → List Cell
  | [], _ => []
  | t :: l, cells => eval t cells :: evalL l cells
end
theorem evalL_map (cells : List Cell) : ∀ l, evalL l cells = l.map fun t => eval t cells
  | [] => rfl
  | t :: l => by simp [evalL, evalL_map cells l]
theorem eval_eq (t : Term) (cells : List Cell) : eval t cells = if t.op = 0 ∨ t.op = 1 then ⟨true, t.n⟩ else if t.op = 2 then valueC t.n cells else evalN t.op (t.args.map fun a => eval a cells) := by
  cases t; simp only [eval, evalL_map, Term.op, Term.n, Term.args]; rfl
def evalT (t : Term) (cells : List Cell) : Cell := if (checkT t).2 ≠ 0 then ⟨false, 0⟩ else eval t cells
end Go.Abs


set_option maxRecDepth 100000
namespace Go.Abs
open Go.Proofs
theorem s93 (a : Int) : Spec Try.prog 93 [.int .i64 a] (fun r => r = .int .i64 (cut a)) := by
  refine Spec.of_awl hf93 okf93 (by simp) ?_
  simp only [q_wpLs_eq_1, q_wpLs_eq_2, q_wpL_eq_1, q_exL_eq_1, q_exL_eq_34, q_look_eq_1, q_look_eq_2, q_lookO_eq_1, q_insT_eq_1, q_awl_eq_2, q_awl_eq_5, q_awl_eq_10, q_AE_thenL_eq_1, q_initT_eq_1, q_initT_eq_2, q_putK_eq_1, q_vInts_eq_1, q_vInts_eq_2, q_foldV_eq_1, q_vMinmax_eq_1, q_minmaxI_eq_1, q_mapT_eq_1, q_mapT_eq_2, q_mapO_eq_1, q_endK_eq_2, q_endL_eq_1, q_endV_eq_1, q_resL_eq_1, q_resL_eq_2, q_resX_eq_1, q_one_eq_1, q_V_nrm_eq_1, q_K_nrm_eq_1, q_V_owns_eq_1, q_K_owns_eq_2, q_V_toNew_eq_1, q_K_toNew_eq_1, q_C_norm_eq_4, q_Option_map_some, q_List_map_cons, q_List_map_nil, q_List_foldl_cons, q_List_foldl_nil, true_and, if_true, if_false, Bool.false_eq_true, and_self, Int.reduceNeg, List.nodup_nil, Nat.reduceBEq, Nat.zero_add, lookT_here, lookT_next, uf93, uf93r1, uf93b2, uf93r3, uf93b4]
  congr 3
  unfold cut
  split <;> split <;> omega
theorem s33 (a : Int) : Spec Try.prog 33 [.int .i64 a] (fun r => r = varTypeV a) := by
  refine Spec.of_awl hf33 okf33 (by simp) ?_
  simp only [q_wpLs_eq_1, q_wpLs_eq_2, q_wpL_eq_1, q_putDL_eq_1, q_AOp_dst_eq_1, q_AOp_dst_eq_10, q_exL_eq_1, q_exL_eq_3, q_exL_eq_11, q_look_eq_1, q_look_eq_2, q_lookO_eq_1, q_insT_eq_1, q_awl_eq_1, q_awl_eq_2, q_awl_eq_5, q_awl_eq_6, q_awl_eq_7, q_awl_eq_10, q_AE_thenL_eq_1, q_AE_thenL_eq_3, q_AE_inBlockL_eq_1, q_AE_inBlockL_eq_3, q_initT_eq_1, q_initT_eq_2, q_putK_eq_1, q_vBin_eq_1, q_resV_eq_1, q_binV_eq_1, q_binInt_eq_3, q_cutInt_eq_8, q_cutInt_eq_10, q_vPick_eq_1, q_vPick_eq_2, q_mapT_eq_1, q_mapT_eq_2, q_mapO_eq_1, q_endK_eq_2, q_endL_eq_1, q_endV_eq_1, q_resL_eq_1, q_resL_eq_2, q_resX_eq_1, q_one_eq_2, q_V_nrm_eq_1, q_V_nrm_eq_5, q_K_nrm_eq_1, q_V_owns_eq_1, q_V_owns_eq_3, q_K_owns_eq_2, q_V_ownsL_eq_1, q_V_ownsL_eq_2, q_V_toNew_eq_1, q_V_toNew_eq_4, q_K_toNew_eq_1, q_V_toNewL_eq_1, q_V_toNewL_eq_2, q_C_norm_eq_4, q_C_norm_eq_5, q_Bool_not_false, true_and, if_true, if_false, Bool.false_eq_true, and_self, List.append_nil, List.nodup_nil, Nat.reduceBEq, Nat.zero_add, q_learn_eq_1, q_guardP_eq_2, q_condK_eq_1, q_condB_eq_1, q_condB_eq_2, q_exK_eq_1, condB_decide, lookT_here, lookT_next, uf33, uf33r1, uf33b2, uf33r3, uf33b4, uf33r5, uf33b6, uf33b7, uf33r8, uf33b9, uf33b10, uf33r11, uf33b12, uf33b13, uf33b14, uf33r15, uf33b16]
  repeat' (first | with_reducible refine And.intro ?_ ?_ | with_reducible intro _)
  all_goals (simp only [varTypeV, varType]; (repeat' split) <;> simp_all <;> omega)
theorem s71 (t : Term) : Spec Try.prog 71 [.agg (encT t)] (fun r => r = pairV (leaf t)) := by
  refine Spec.of_awl hf71 okf71 (by simp) ?_
  simp only [encT_eq, lstC, map_len, q_wpLs_eq_1, q_wpLs_eq_2, q_wpLQs_eq_2, q_wpL_eq_1, q_wpLQ_eq_1, q_putDL_eq_1, q_AOp_dst_eq_8, q_AOp_dst_eq_10, q_AOp_dst_eq_20, q_exL_eq_1, q_exL_eq_3, q_exL_eq_5, q_exL_eq_8, q_exL_eq_11, q_exL_eq_21, q_exL_eq_28, q_exL_eq_30, q_exLQ_eq_9, q_exLQ_eq_22, q_exLQ_eq_29, q_look_eq_1, q_look_eq_2, q_insT_eq_1, q_insO_eq_1, q_awl_eq_1, q_awl_eq_2, q_awl_eq_3, q_awl_eq_5, q_awl_eq_6, q_awl_eq_7, q_awl_eq_10, q_AE_thenL_eq_1, q_AE_thenL_eq_3, q_AE_inBlockL_eq_1, q_AE_inBlockL_eq_3, q_initT_eq_1, q_initT_eq_2, q_putK_eq_1, q_vBin_eq_1, q_resV_eq_1, q_binV_eq_1, q_binInt_eq_3, q_cutInt_eq_6, q_cutInt_eq_8, q_cutInt_eq_10, q_vLen_eq_1, q_vFaddr_eq_1, q_loadO_eq_1, q_isV_eq_1, q_vLoad_eq_1, q_vPick_eq_1, q_vPick_eq_2, q_ofRow_eq_1, q_pureRow_eq_1, q_pureRow_eq_2, q_isVarO_eq_1, q_boxK_eq_1, q_mapT_eq_1, q_mapT_eq_2, q_mapO_eq_1, q_mapO_eq_2, q_freeB_eq_1, q_freeT_eq_1, q_freeT_eq_2, q_freeO_eq_1, q_V_noRef_eq_2, q_endK_eq_2, q_endL_eq_1, q_endV_eq_1, q_resL_eq_1, q_resL_eq_2, q_resX_eq_1, q_one_eq_2, q_V_nrm_eq_1, q_V_nrm_eq_2, q_V_nrm_eq_5, q_K_nrm_eq_1, q_K_nrm_eq_3, q_O_nrm_eq_1, q_V_owns_eq_1, q_V_owns_eq_3, q_K_owns_eq_2, q_V_ownsL_eq_1, q_V_ownsL_eq_2, q_V_toNew_eq_1, q_V_toNew_eq_4, q_K_toNew_eq_1, q_V_toNewL_eq_1, q_V_toNewL_eq_2, q_C_norm_eq_1, q_C_norm_eq_4, q_C_norm_eq_5, q_C_normRow_eq_1, q_C_normRow_eq_2, q_Bool_not_false, q_Option_map_some, q_List_map_cons, q_List_map_nil, q_List_take_succ_cons, q_List_take_zero, q_List_drop_succ_cons, q_List_drop_zero, q_List_length_cons, q_List_length_nil, true_and, if_true, if_false, Bool.false_eq_true, and_self, Bool.and_true, Bool.or_true, List.append_nil, List.nodup_nil, Nat.reduceAdd, Nat.reduceLeDiff, Nat.reduceBEq, Nat.zero_add, Nat.add_zero, Nat.le_refl, q_learn_eq_1, q_guardP_eq_2, q_condK_eq_1, q_condB_eq_1, q_condB_eq_2, q_exK_eq_1, condB_decide, condB_beq, normRows_T, List.length_map, lookT_here, lookT_next, lookO_here, uf71, uf71r9, uf71b10, uf71r16, uf71b17, uf71b18, uf71r19, uf71b20, uf71r21, uf71b22, uf71b23, uf71r24, uf71b25, uf71b26, uf71b27, uf71r28, uf71b29, uf71b30, uf71r31, uf71b32, uf71b33, uf71r34, uf71b35, uf71b36, uf71r37, uf71b38, uf71b39, uf71r40, uf71b41, uf71b42, uf71r43, uf71b44]
  repeat' (first | with_reducible refine And.intro ?_ ?_ | with_reducible intro _)
  all_goals first
    | (refine callQ_scalar (s93 t.n) rfl rfl rfl ?_
       simp only [q_wpLs_eq_1, q_wpLs_eq_2, q_wpLQs_eq_1, q_wpLQs_eq_2, q_wpL_eq_1, q_wpLQ_eq_1, q_exL_eq_1, q_exLQ_eq_9, q_exLQ_eq_12, q_exLQ_eq_22, q_look_eq_1, q_look_eq_2, q_insT_eq_1, q_awl_eq_1, q_awl_eq_2, q_awl_eq_5, q_awl_eq_6, q_awl_eq_10, q_AE_thenL_eq_1, q_AE_thenL_eq_3, q_AE_inBlockL_eq_3, q_putK_eq_1, q_vBin_eq_1, q_resV_eq_1, q_binV_eq_1, q_binInt_eq_3, q_cutInt_eq_7, q_vFaddr_eq_1, q_loadO_eq_1, q_isV_eq_1, q_vLoad_eq_1, q_ofRow_eq_1, q_pureRow_eq_1, q_pureRow_eq_2, q_isVarO_eq_1, q_mapT_eq_1, q_mapT_eq_2, q_mapO_eq_1, q_mapO_eq_2, q_endK_eq_2, q_endL_eq_1, q_endV_eq_1, q_resL_eq_1, q_resL_eq_2, q_resX_eq_1, q_one_eq_2, q_V_nrm_eq_1, q_V_nrm_eq_2, q_K_nrm_eq_1, q_K_nrm_eq_3, q_O_nrm_eq_1, q_V_owns_eq_1, q_V_owns_eq_3, q_K_owns_eq_2, q_V_ownsL_eq_1, q_V_ownsL_eq_2, q_V_toNew_eq_1, q_V_toNew_eq_4, q_K_toNew_eq_1, q_V_toNewL_eq_1, q_V_toNewL_eq_2, q_C_norm_eq_1, q_C_norm_eq_4, q_C_norm_eq_5, q_C_normRow_eq_1, q_C_normRow_eq_2, q_V_fz_eq_1, q_K_fz_eq_2, q_Option_map_some, q_List_map_cons, q_List_map_nil, q_List_take_succ_cons, q_List_take_zero, q_List_drop_succ_cons, q_List_drop_zero, q_List_length_cons, q_List_length_nil, true_and, if_true, if_false, Bool.false_eq_true, and_self, List.append_nil, List.nodup_nil, Nat.reduceAdd, Nat.reduceLeDiff, Nat.reduceBEq, Nat.zero_add, q_learn_eq_1, q_condK_eq_1, condB_bne, normRows_T, lookT_here, lookT_next, lookO_here, uf71r11, uf71b12, uf71r13, uf71b14, uf71b15]
       repeat' (first | with_reducible refine And.intro ?_ ?_ | with_reducible intro _)
       all_goals simp_all [leaf, pairV]
       done)
    | (refine call_scalar (s33 t.n) rfl rfl rfl ?_
       simp only [varTypeV, condB_iff, q_wpLs_eq_1, q_wpLs_eq_2, q_wpL_eq_1, q_exL_eq_1, q_exL_eq_15, q_exL_eq_27, q_look_eq_1, q_look_eq_2, q_insT_eq_1, q_awl_eq_1, q_awl_eq_2, q_awl_eq_5, q_awl_eq_6, q_awl_eq_10, q_AE_thenL_eq_1, q_AE_thenL_eq_3, q_putK_eq_1, q_vUn_eq_1, q_unV_eq_2, q_mapC_eq_1, q_vExtr_eq_1, q_mapT_eq_1, q_mapT_eq_2, q_mapO_eq_1, q_mapO_eq_2, q_endK_eq_2, q_endL_eq_1, q_endV_eq_1, q_resL_eq_1, q_resL_eq_2, q_resX_eq_1, q_one_eq_2, q_V_nrm_eq_1, q_V_nrm_eq_2, q_V_nrm_eq_4, q_K_nrm_eq_1, q_K_nrm_eq_3, q_V_nrmL_eq_1, q_V_nrmL_eq_2, q_O_nrm_eq_1, q_V_owns_eq_1, q_V_owns_eq_3, q_K_owns_eq_2, q_V_ownsL_eq_1, q_V_ownsL_eq_2, q_V_toNew_eq_1, q_V_toNew_eq_4, q_K_toNew_eq_1, q_V_toNewL_eq_1, q_V_toNewL_eq_2, q_C_norm_eq_1, q_C_norm_eq_4, q_C_norm_eq_5, q_C_normRow_eq_1, q_C_normRow_eq_2, q_List_map_cons, q_List_map_nil, q_List_getElemQ_cons_zero, q_List_getElemQ_cons_succ, true_and, and_self, Bool.not_eq_true', Bool.not_eq_false', List.append_nil, List.nodup_nil, Nat.reduceBEq, q_learn_eq_1, q_condK_eq_1, normRows_T, lookT_here, lookT_next, uf71r1, uf71b2, uf71r3, uf71b4, uf71b5, uf71r6, uf71b7, uf71b8]
       cases hv : varType t.n <;> simp_all [leaf, pairV]
       done)
    | (simp_all [leaf, pairV]; done)
    | (simp_all [leaf, pairV]; rw [if_neg (by omega)]; simp; done)
    | (simp_all [leaf, pairV]; rw [if_pos (by omega)]; simp; done)
end Go.Abs


set_option maxRecDepth 100000
set_option maxHeartbeats 4000000
namespace Go.Abs
open Go.Proofs
def encCV (c : Cell) : V := .agg (encCell c)
theorem s94 (b : Bool) : Spec Try.prog 94 [.bool b] (fun r => r = encCV (yes b)) := by
  refine Spec.of_awlS hf94 okf94 (by simp) fun S hS => ?_
  cases b <;> simp only [q_wpLs_eq_1, q_wpLs_eq_2, q_wpL_eq_1, q_exL_eq_1, q_exL_eq_4, q_exL_eq_6, q_exL_eq_9, q_look_eq_1, q_look_eq_2, q_insT_eq_1, q_insO_eq_1, q_awl_eq_1, q_awl_eq_2, q_awl_eq_5, q_awl_eq_6, q_awl_eq_10, q_AE_thenL_eq_1, q_AE_thenL_eq_3, q_initT_eq_1, q_initT_eq_2, q_putK_eq_1, q_vBuild_eq_1, q_vBuild_eq_2, q_rowV_eq_1, q_ofRow_eq_2, q_pureRow_eq_1, q_pureRow_eq_2, q_V_cells_eq_1, q_V_cells_eq_2, q_splice_eq_1, q_stVarK_eq_1, q_storeK_eq_1, q_mapT_eq_1, q_mapT_eq_2, q_mapO_eq_1, q_mapO_eq_2, q_freeB_eq_1, q_freeT_eq_1, q_freeT_eq_2, q_freeO_eq_1, q_V_noRef_eq_1, q_K_noRef_eq_1, q_endK_eq_2, q_endL_eq_1, q_endV_eq_1, q_resL_eq_1, q_resL_eq_2, q_resX_eq_2, q_resCell_eq_1, q_one_eq_1, q_V_nrm_eq_1, q_V_nrm_eq_2, q_K_nrm_eq_1, q_K_nrm_eq_3, q_O_nrm_eq_1, q_V_owns_eq_4, q_V_toNew_eq_2, q_C_norm_eq_4, q_C_norm_eq_5, q_C_normRow_eq_1, q_C_normRow_eq_2, q_Option_map_some, q_List_map_cons, q_List_map_nil, q_List_take_succ_cons, q_List_take_zero, q_List_drop_succ_cons, q_List_drop_zero, q_List_nil_append, q_List_cons_append, q_List_length_cons, q_List_length_nil, true_and, if_true, and_self, Bool.and_true, Bool.or_true, List.append_nil, List.nodup_nil, Nat.reduceAdd, Nat.reduceLeDiff, Nat.reduceLT, Nat.reduceBEq, Nat.zero_add, Nat.le_refl, q_learn_eq_1, q_condK_eq_1, q_condB_eq_1, q_condB_eq_2, lookT_here, lookT_next, lookO_here, uf94, uf94r1, uf94b2, uf94r3, uf94b4, uf94b5, uf94r6, uf94b7, uf94b8, uf94r9, uf94b10] <;> exact fin hS rfl
theorem encCV_eq {a b : Cell} (h : a = b) : encCV a = encCV b := by rw [h]
theorem fin_cell {S : V → Prop} {c : Cell} {k : Bool} {n : Int} (h : S (encCV c)) (e : Cell.mk k n = c) : S (.agg [.bool k, .int .i64 n]) := by subst e; exact h
theorem cell_at {l : List Cell} {i : Nat} (h : i < l.length) : (l.map encCell).getD i [] = [.bool l[i].known, .int .i64 l[i].n] := by simp [h, encCell]
def machV (l : List Cell) : V := .agg [lstC 2 (l.map encCell)]
theorem s76 (v : Int) (l : List Cell) (h0 : 0 ≤ v) (h20 : v < 20) : Spec Try.prog 76 [machV l, .int .i64 v] (fun r => r = encCV (valueC v l)) := by
  refine Spec.of_awlS hf76 okf76 (by simp [machV]) fun S hS => ?_
  have h1 : ¬ v < 0 := by omega
  by_cases h2 : v ≥ l.length
  · simp only [machV, h1, h2, q_wpLs_eq_1, q_wpLs_eq_2, q_wpL_eq_1, q_putDL_eq_1, q_AOp_dst_eq_1, q_AOp_dst_eq_8, q_AOp_dst_eq_14, q_AOp_dst_eq_20, q_AOp_dst_eq_22, q_exL_eq_1, q_exL_eq_3, q_exL_eq_4, q_exL_eq_5, q_exL_eq_6, q_exL_eq_8, q_exL_eq_9, q_exL_eq_11, q_exL_eq_21, q_exL_eq_30, q_look_eq_1, q_look_eq_2, q_insT_eq_1, q_insO_eq_1, q_awl_eq_2, q_awl_eq_5, q_awl_eq_6, q_awl_eq_10, q_AE_thenL_eq_1, q_AE_thenL_eq_3, q_initT_eq_1, q_initT_eq_2, q_putK_eq_1, q_vBin_eq_1, q_resV_eq_1, q_binV_eq_1, q_binInt_eq_3, q_cutInt_eq_11, q_vFaddr_eq_1, q_loadO_eq_1, q_isV_eq_1, q_vLoad_eq_1, q_vPick_eq_2, q_vBuild_eq_1, q_rowV_eq_1, q_ofRow_eq_1, q_ofRow_eq_2, q_pureRow_eq_1, q_pureRow_eq_2, q_V_cells_eq_2, q_splice_eq_1, q_isVarO_eq_1, q_boxK_eq_1, q_stVarK_eq_1, q_storeK_eq_1, q_mapT_eq_1, q_mapT_eq_2, q_mapO_eq_1, q_mapO_eq_2, q_freeB_eq_1, q_freeT_eq_1, q_freeT_eq_2, q_freeO_eq_1, q_freeO_eq_2, q_V_noRef_eq_1, q_V_noRef_eq_2, q_K_noRef_eq_1, q_K_noRef_eq_3, q_O_noRef_eq_1, q_endK_eq_2, q_endL_eq_1, q_endV_eq_1, q_resL_eq_1, q_resL_eq_2, q_resX_eq_2, q_resCell_eq_1, q_one_eq_1, q_V_nrm_eq_1, q_V_nrm_eq_2, q_V_nrm_eq_5, q_K_nrm_eq_1, q_K_nrm_eq_3, q_O_nrm_eq_1, q_V_owns_eq_4, q_V_toNew_eq_2, q_C_norm_eq_4, q_C_norm_eq_5, q_C_normRow_eq_1, q_C_normRow_eq_2, q_Bool_not_false, q_Option_map_some, q_List_map_cons, q_List_map_nil, q_List_take_succ_cons, q_List_take_zero, q_List_drop_succ_cons, q_List_drop_zero, q_List_nil_append, q_List_length_cons, q_List_length_nil, q_List_all_cons, q_List_all_nil, true_and, if_true, if_false, Bool.false_eq_true, and_self, bne_iff_ne, ne_eq, Bool.and_true, Bool.or_true, Bool.false_or, List.append_nil, List.nodup_nil, Nat.reduceAdd, Nat.reduceEqDiff, Nat.reduceLT, Nat.reduceBEq, Nat.zero_add, Nat.add_zero, Nat.le_refl, q_learn_eq_1, not_false_eq_true, q_guardP_eq_2, q_condK_eq_1, q_condB_eq_1, decide_true, r_vLen_lst, norm_lst, normRows_Ce, List.length_map, lookT_here, lookT_next, lookO_here, lookO_next, uf76, uf76r11, uf76b12, uf76b13, uf76r14, uf76b15, uf76b16, uf76r17, uf76b18]
    exact fin hS (encCV_eq (a := ⟨_, _⟩) (by simp [valueC, h2]))
  have h3 : v.toNat < l.length := by omega
  have h4 : v < l.length := by omega
  have h5 : 0 ≤ v := by omega
  obtain ⟨kn, n, hc⟩ : ∃ k n, l[v.toNat] = Cell.mk k n := ⟨_, _, rfl⟩
  have hv : valueC v l = if kn = false then ⟨false, 0⟩ else if (varType v).getD 0 = 0 then ⟨true, cut n⟩ else if n ≠ 0 then ⟨true, 1⟩ else ⟨true, 0⟩ := by
    simp only [valueC, h1, h2, or_self, if_false, List.getD_eq_getElem?_getD, List.getElem?_eq_getElem h3, Option.getD_some, hc]
  cases kn
  · simp only [machV, h1, h2, h4, h5, cell_at h3, hc, q_wpLs_eq_1, q_wpLs_eq_2, q_wpL_eq_1, q_AOp_dst_eq_1, q_AOp_dst_eq_8, q_AOp_dst_eq_14, q_AOp_dst_eq_20, q_AOp_dst_eq_22, q_exL_eq_1, q_exL_eq_3, q_exL_eq_4, q_exL_eq_5, q_exL_eq_6, q_exL_eq_8, q_exL_eq_9, q_exL_eq_11, q_exL_eq_15, q_exL_eq_21, q_exL_eq_23, q_exL_eq_30, q_look_eq_1, q_look_eq_2, q_insT_eq_1, q_insO_eq_1, q_awl_eq_2, q_awl_eq_5, q_awl_eq_6, q_awl_eq_10, q_AE_thenL_eq_1, q_AE_thenL_eq_3, q_initT_eq_1, q_initT_eq_2, q_putK_eq_1, q_vBin_eq_1, q_resV_eq_1, q_binV_eq_1, q_binInt_eq_3, q_cutInt_eq_11, q_vUn_eq_1, q_unV_eq_2, q_mapC_eq_1, q_vFaddr_eq_1, q_vFaddr_eq_3, q_partV_eq_2, q_loadO_eq_1, q_isV_eq_1, q_vLoad_eq_1, q_vLoad_eq_2, q_vPick_eq_1, q_vBuild_eq_1, q_rowV_eq_1, q_ofRow_eq_1, q_ofRow_eq_2, q_pureRow_eq_1, q_pureRow_eq_2, q_V_cells_eq_2, q_splice_eq_1, q_isVarO_eq_1, q_boxK_eq_1, q_stVarK_eq_1, q_storeK_eq_1, q_mapT_eq_1, q_mapT_eq_2, q_mapO_eq_1, q_mapO_eq_2, q_freeB_eq_1, q_freeT_eq_1, q_freeT_eq_2, q_freeO_eq_1, q_freeO_eq_2, q_V_noRef_eq_1, q_V_noRef_eq_2, q_K_noRef_eq_1, q_K_noRef_eq_3, q_O_noRef_eq_1, q_endK_eq_2, q_endL_eq_1, q_endV_eq_1, q_resL_eq_1, q_resL_eq_2, q_resX_eq_2, q_resCell_eq_1, q_one_eq_1, q_V_nrm_eq_1, q_V_nrm_eq_2, q_K_nrm_eq_1, q_K_nrm_eq_2, q_K_nrm_eq_3, q_O_nrm_eq_1, q_V_owns_eq_4, q_V_toNew_eq_2, q_C_norm_eq_4, q_C_norm_eq_5, q_C_normRow_eq_1, q_C_normRow_eq_2, q_Bool_not_false, q_Option_map_some, q_List_map_cons, q_List_map_nil, q_List_take_succ_cons, q_List_take_zero, q_List_drop_succ_cons, q_List_drop_zero, q_List_nil_append, q_List_length_cons, q_List_length_nil, q_List_getD_cons_zero, q_List_all_cons, q_List_all_nil, true_and, if_true, if_false, Bool.false_eq_true, and_self, bne_iff_ne, ne_eq, Bool.and_true, Bool.or_true, Bool.false_or, List.append_nil, List.nodup_nil, Nat.reduceAdd, Nat.reduceEqDiff, Nat.reduceLeDiff, Nat.reduceLT, Nat.reduceBEq, Nat.zero_add, Nat.add_zero, Nat.le_refl, q_learn_eq_1, not_false_eq_true, q_guardP_eq_2, q_condK_eq_1, q_condB_eq_1, q_condB_eq_2, q_exK_eq_1, decide_false, r_vLen_lst, r_vIaddr_lst, norm_lst, normRows_Ce, List.length_map, lookT_here, lookT_next, lookO_here, lookO_next, uf76, uf76r11, uf76b12, uf76b13, uf76r14, uf76b15, uf76b16, uf76r17, uf76b18]
    exact fin hS (encCV_eq (a := ⟨_, _⟩) (by rw [hv]; rfl))
  · simp only [machV, h1, h2, h4, h5, cell_at h3, hc, q_wpLs_eq_1, q_wpLs_eq_2, q_wpL_eq_1, q_AOp_dst_eq_1, q_AOp_dst_eq_8, q_AOp_dst_eq_14, q_AOp_dst_eq_20, q_AOp_dst_eq_22, q_exL_eq_1, q_exL_eq_3, q_exL_eq_4, q_exL_eq_5, q_exL_eq_8, q_exL_eq_11, q_exL_eq_15, q_exL_eq_21, q_exL_eq_23, q_exL_eq_28, q_exL_eq_30, q_look_eq_1, q_look_eq_2, q_insT_eq_1, q_insO_eq_1, q_awl_eq_1, q_awl_eq_2, q_awl_eq_5, q_awl_eq_6, q_AE_thenL_eq_1, q_initT_eq_1, q_initT_eq_2, q_putK_eq_1, q_vBin_eq_1, q_resV_eq_1, q_binV_eq_1, q_binInt_eq_3, q_cutInt_eq_11, q_vUn_eq_1, q_unV_eq_2, q_mapC_eq_1, q_vFaddr_eq_1, q_vFaddr_eq_3, q_partV_eq_2, q_loadO_eq_1, q_isV_eq_1, q_vLoad_eq_1, q_vLoad_eq_2, q_vPick_eq_1, q_ofRow_eq_1, q_pureRow_eq_1, q_pureRow_eq_2, q_isVarO_eq_1, q_boxK_eq_1, q_freeB_eq_1, q_freeT_eq_1, q_freeT_eq_2, q_freeO_eq_1, q_freeO_eq_2, q_V_noRef_eq_1, q_V_noRef_eq_2, q_K_noRef_eq_1, q_K_noRef_eq_3, q_O_noRef_eq_1, q_Bool_not_true, q_Bool_not_false, q_Option_map_some, q_List_map_cons, q_List_map_nil, q_List_take_succ_cons, q_List_take_zero, q_List_drop_zero, q_List_length_cons, q_List_length_nil, q_List_getD_cons_zero, q_List_all_cons, q_List_all_nil, true_and, if_true, if_false, Bool.false_eq_true, and_self, bne_iff_ne, ne_eq, Bool.and_true, Bool.or_true, Bool.false_or, Nat.reduceAdd, Nat.reduceEqDiff, Nat.reduceLeDiff, Nat.reduceBEq, Nat.zero_add, Nat.add_zero, Nat.le_refl, q_learn_eq_1, not_false_eq_true, q_guardP_eq_2, q_condK_eq_1, q_condB_eq_2, q_exK_eq_1, decide_false, r_vLen_lst, r_vIaddr_lst, List.length_map, lookT_here, lookT_next, lookO_here, lookO_next, uf76, uf76r8, uf76b9, uf76b10, uf76b13, uf76r14, uf76b15, uf76b16, uf76r17, uf76b18]
    refine call_s (s33 v) ?_
    simp only [varTypeV, h4, h5, cell_at h3, hc, q_wpLs_eq_1, q_wpLs_eq_2, q_wpL_eq_1, q_exL_eq_1, q_exL_eq_8, q_exL_eq_11, q_exL_eq_21, q_exL_eq_23, q_exL_eq_27, q_exL_eq_28, q_look_eq_1, q_look_eq_2, q_insT_eq_1, q_awl_eq_1, q_awl_eq_2, q_awl_eq_5, q_awl_eq_6, q_AE_thenL_eq_1, q_putK_eq_1, q_vBin_eq_1, q_resV_eq_1, q_binV_eq_1, q_binInt_eq_3, q_cutInt_eq_6, q_cutInt_eq_7, q_vExtr_eq_1, q_vFaddr_eq_1, q_vFaddr_eq_3, q_partV_eq_2, q_loadO_eq_1, q_isV_eq_1, q_vLoad_eq_1, q_vLoad_eq_2, q_ofRow_eq_1, q_pureRow_eq_1, q_pureRow_eq_2, q_isVarO_eq_1, q_Option_map_some, q_List_map_cons, q_List_map_nil, q_List_take_succ_cons, q_List_take_zero, q_List_drop_zero, q_List_length_cons, q_List_length_nil, q_List_getElemQ_cons_zero, q_List_getElemQ_cons_succ, q_List_getD_cons_zero, q_List_getD_cons_succ, true_and, if_true, if_false, Bool.false_eq_true, and_self, Nat.reduceAdd, Nat.reduceBEq, Nat.zero_add, Nat.add_zero, Nat.le_refl, q_learn_eq_1, q_condK_eq_1, condB_beq, r_vIaddr_lst, List.length_map, lookT_here, lookT_next, lookO_here, lookO_next, uf76r1, uf76b2, uf76r3, uf76b4, uf76b5, uf76r6, uf76b7]
    rw [if_neg (by simp)] at hv
    have hty : (varType v).getD 0 = 0 ∨ (varType v).getD 0 = 1 := by unfold varType; split <;> (try split) <;> simp
    repeat' (first | with_reducible refine And.intro ?_ ?_ | with_reducible intro _)
    · rename_i hk
      refine call_r (s94 (n != 0)) ?_
      simp only [encCV, encCell, q_wpLs_eq_1, q_wpLs_eq_2, q_wpL_eq_1, q_exL_eq_9, q_look_eq_1, q_insT_eq_1, q_insO_eq_1, q_awl_eq_10, q_AE_thenL_eq_3, q_ofRow_eq_2, q_pureRow_eq_1, q_pureRow_eq_2, q_V_cells_eq_2, q_splice_eq_1, q_stVarK_eq_1, q_storeK_eq_1, q_mapT_eq_1, q_mapT_eq_2, q_mapO_eq_1, q_mapO_eq_2, q_endK_eq_2, q_endL_eq_1, q_endV_eq_1, q_resL_eq_1, q_resL_eq_2, q_resX_eq_2, q_resCell_eq_1, q_one_eq_1, q_V_nrm_eq_1, q_V_nrm_eq_2, q_V_nrm_eq_4, q_K_nrm_eq_1, q_K_nrm_eq_2, q_K_nrm_eq_3, q_V_nrmL_eq_1, q_V_nrmL_eq_2, q_O_nrm_eq_1, q_V_owns_eq_4, q_V_toNew_eq_2, q_C_norm_eq_4, q_C_norm_eq_5, q_C_normRow_eq_1, q_C_normRow_eq_2, q_regN_eq_2, q_V_reg_eq_4, q_freesL_eq_1, q_addsL_eq_1, q_regK_eq_1, q_retK_eq_2, q_Option_map_some, q_List_map_cons, q_List_map_nil, q_List_take_succ_cons, q_List_take_zero, q_List_drop_succ_cons, q_List_drop_zero, q_List_nil_append, q_List_length_cons, q_List_length_nil, true_and, if_true, and_self, List.append_nil, List.nodup_nil, Nat.reduceAdd, Nat.reduceMul, Nat.reduceLT, Nat.reduceBEq, Nat.zero_add, Nat.le_refl, norm_lst, normRows_Ce, lookT_here, lookT_next, lookO_here]
      refine fin hS (encCV_eq (a := yes (n != 0)) ?_)
      rw [hv, if_neg (by omega)]
      by_cases hn : n = 0 <;> simp [yes, hn]
    · rename_i hk
      refine call_s (s93 n) ?_
      simp only [q_wpLs_eq_1, q_wpLs_eq_2, q_wpL_eq_1, q_exL_eq_6, q_exL_eq_9, q_look_eq_1, q_look_eq_2, q_insT_eq_1, q_insO_eq_1, q_awl_eq_10, q_putK_eq_1, q_vBuild_eq_1, q_vBuild_eq_2, q_rowV_eq_1, q_ofRow_eq_2, q_pureRow_eq_1, q_pureRow_eq_2, q_V_cells_eq_1, q_V_cells_eq_2, q_splice_eq_1, q_stVarK_eq_1, q_storeK_eq_1, q_mapT_eq_1, q_mapT_eq_2, q_mapO_eq_1, q_mapO_eq_2, q_endK_eq_2, q_endL_eq_1, q_endV_eq_1, q_resL_eq_1, q_resL_eq_2, q_resX_eq_2, q_resCell_eq_1, q_one_eq_1, q_V_nrm_eq_1, q_V_nrm_eq_2, q_V_nrm_eq_4, q_K_nrm_eq_1, q_K_nrm_eq_2, q_K_nrm_eq_3, q_V_nrmL_eq_1, q_V_nrmL_eq_2, q_O_nrm_eq_1, q_V_owns_eq_4, q_V_toNew_eq_2, q_C_norm_eq_4, q_C_norm_eq_5, q_C_normRow_eq_1, q_C_normRow_eq_2, q_Option_map_some, q_List_map_cons, q_List_map_nil, q_List_take_succ_cons, q_List_take_zero, q_List_drop_succ_cons, q_List_drop_zero, q_List_nil_append, q_List_cons_append, q_List_length_cons, q_List_length_nil, true_and, if_true, and_self, List.append_nil, List.nodup_nil, Nat.reduceAdd, Nat.reduceLeDiff, Nat.reduceLT, Nat.reduceBEq, Nat.zero_add, Nat.le_refl, norm_lst, normRows_Ce, lookT_here, lookT_next, lookO_here]
      exact fin hS (encCV_eq (a := ⟨_, _⟩) (by rw [hv, if_pos (by omega)]; rfl))
end Go.Abs


set_option maxRecDepth 100000
set_option maxHeartbeats 4000000
namespace Go.Abs
open Go.Proofs
theorem wrapu_in {n : Int} (h1 : 0 ≤ n) (h2 : n < 18446744073709551616) : IntKind.u64.wrap n = n := by
  have : IntKind.u64.wrap n = n % 18446744073709551616 := rfl
  rw [this]; omega
theorem and32 (a : Nat) (h : a < 18446744073709551616) : IntKind.u64.wrap (((BitVec.ofInt IntKind.u64.bits (a : Int) &&& BitVec.ofInt IntKind.u64.bits 4294967295).toNat : Nat) : Int) = ((a % 4294967296 : Nat) : Int) := by
  have e : (BitVec.ofInt IntKind.u64.bits (a : Int) &&& BitVec.ofInt IntKind.u64.bits 4294967295).toNat = a % 4294967296 := by
    show (BitVec.ofInt 64 (a : Int) &&& BitVec.ofInt 64 4294967295).toNat = _
    rw [BitVec.toNat_and]
    have e1 : (BitVec.ofInt 64 (a : Int)).toNat = a := by
      rw [BitVec.toNat_ofInt]; omega
    have e2 : (BitVec.ofInt 64 4294967295).toNat = 2 ^ 32 - 1 := by rfl
    rw [e1, e2, Nat.and_two_pow_sub_one_eq_mod]
  rw [e]
  exact wrapu_in (by omega) (by omega)
theorem shr32 (a : Nat) : (a : Int).fdiv (2 ^ (min (Int.toNat 32) IntKind.u64.bits)) = ((a / 4294967296 : Nat) : Int) := by
  show (a : Int).fdiv 4294967296 = _
  rw [Int.fdiv_eq_ediv_of_nonneg _ (by omega)]; omega
theorem s108 (x y : Nat) (hx : x < 4398046511104) (hy : y < 4398046511104) : Spec Try.prog 108 [.int .u64 x, .int .u64 y] (fun r => r = .tup [.int .u64 ((x * y / 18446744073709551616 : Nat) : Int), .int .u64 ((x * y % 18446744073709551616 : Nat) : Int)]) := by
  refine Spec.of_awlS hf108 okf108 (by simp) fun S hS => ?_
  simp only [q_wpLs_eq_1, q_wpLs_eq_2, q_wpL_eq_1, q_exL_eq_1, q_exL_eq_11, q_look_eq_1, q_look_eq_2, q_lookO_eq_1, q_insT_eq_1, q_awl_eq_2, q_awl_eq_5, q_awl_eq_10, q_AE_thenL_eq_1, q_initT_eq_1, q_initT_eq_2, q_putK_eq_1, q_vBin_eq_1, q_resV_eq_1, q_binV_eq_1, q_binInt_eq_2, q_binInt_eq_3, q_cutInt_eq_1, q_cutInt_eq_3, q_cutInt_eq_12, q_mapT_eq_1, q_mapT_eq_2, q_mapO_eq_1, q_endK_eq_2, q_endL_eq_1, q_endV_eq_1, q_resL_eq_1, q_resL_eq_2, q_resX_eq_1, q_one_eq_2, q_V_nrm_eq_1, q_K_nrm_eq_1, q_V_owns_eq_1, q_V_owns_eq_3, q_K_owns_eq_2, q_V_ownsL_eq_1, q_V_ownsL_eq_2, q_V_toNew_eq_1, q_V_toNew_eq_4, q_K_toNew_eq_1, q_V_toNewL_eq_1, q_V_toNewL_eq_2, q_C_norm_eq_4, true_and, if_true, and_self, List.append_nil, List.nodup_nil, Nat.reduceAdd, Nat.reduceBEq, Nat.zero_add, lookT_here, lookT_next, Int.reduceLE, Int.reduceToNat, uf108, uf108r1, uf108b2, uf108r3, uf108b4, uf108r5, uf108b6, uf108r7, uf108b8, uf108r9, uf108b10, uf108r11, uf108b12, uf108r13, uf108b14, uf108r15, uf108b16, uf108r17, uf108b18, uf108r19, uf108b20, uf108r21, uf108b22, uf108r23, uf108b24]
  have hx1 : x / 4294967296 < 1024 := by omega
  have hy1 : y / 4294967296 < 1024 := by omega
  have hx0 : x % 4294967296 < 4294967296 := by omega
  have hy0 : y % 4294967296 < 4294967296 := by omega
  have hxe : x = x / 4294967296 * 4294967296 + x % 4294967296 := by omega
  have hye : y = y / 4294967296 * 4294967296 + y % 4294967296 := by omega
  have a1 := and32 x (by omega)
  have a2 := and32 y (by omega)
  have a3 := shr32 x
  have a4 := shr32 y
  have hxy : IntKind.u64.wrap ((x : Int) * (y : Int)) = ((x * y % 18446744073709551616 : Nat) : Int) := by
    have : IntKind.u64.wrap ((x : Int) * (y : Int)) = ((x : Int) * (y : Int)) % 18446744073709551616 := rfl
    rw [this]; simp
  simp only [Int.reduceToNat] at a3 a4
  have prod : x * y = x / 4294967296 * (y / 4294967296) * 18446744073709551616 + (x / 4294967296 * (y % 4294967296) + x % 4294967296 * (y / 4294967296)) * 4294967296 + x % 4294967296 * (y % 4294967296) := by
    conv => lhs; rw [hxe, hye]
    generalize x / 4294967296 = p
    generalize x % 4294967296 = q
    generalize y / 4294967296 = r
    generalize y % 4294967296 = s
    rw [Nat.add_mul, Nat.mul_add, Nat.mul_add, Nat.add_mul]
    have h1 : p * 4294967296 * (r * 4294967296) = p * r * 18446744073709551616 := by
      rw [Nat.mul_mul_mul_comm]
    have h2 : p * 4294967296 * s = p * s * 4294967296 := by rw [Nat.mul_right_comm]
    have h3 : q * (r * 4294967296) = q * r * 4294967296 := by rw [Nat.mul_assoc]
    rw [h1, h2, h3]
    omega
  have A : x % 4294967296 * (y % 4294967296) < 18446744073709551616 := Nat.lt_of_lt_of_le (Nat.mul_lt_mul'' hx0 hy0) (by decide)
  have B : x / 4294967296 * (y % 4294967296) < 4398046511104 := Nat.lt_of_lt_of_le (Nat.mul_lt_mul'' hx1 hy0) (by decide)
  have C : x % 4294967296 * (y / 4294967296) < 4398046511104 := Nat.lt_of_lt_of_le (Nat.mul_lt_mul'' hx0 hy1) (by decide)
  have D : x / 4294967296 * (y / 4294967296) < 1048576 := Nat.lt_of_lt_of_le (Nat.mul_lt_mul'' hx1 hy1) (by decide)
  have wN : ∀ n : Nat, n < 18446744073709551616 → IntKind.u64.wrap (n : Int) = n := fun n h => wrapu_in (by omega) (by omega)
  simp only [a1, a2, a3, a4, hxy]
  rw [prod]
  generalize x / 4294967296 = p at *
  generalize x % 4294967296 = q at *
  generalize y / 4294967296 = r at *
  generalize y % 4294967296 = s at *
  have e1 : IntKind.u64.wrap ((q : Int) * (s : Int)) = ((q * s : Nat) : Int) := by rw [← Int.natCast_mul]; exact wN _ A
  have e2 : IntKind.u64.wrap ((p : Int) * (s : Int)) = ((p * s : Nat) : Int) := by rw [← Int.natCast_mul]; exact wN _ (by omega)
  have e6 : IntKind.u64.wrap ((q : Int) * (r : Int)) = ((q * r : Nat) : Int) := by rw [← Int.natCast_mul]; exact wN _ (by omega)
  have e10 : IntKind.u64.wrap ((p : Int) * (r : Int)) = ((p * r : Nat) : Int) := by rw [← Int.natCast_mul]; exact wN _ (by omega)
  simp only [e1, e2, e6, e10]
  clear e1 e2 e6 e10 a1 a2 a3 a4 hxy
  have shr : ∀ n : Nat, (n : Int).fdiv (2 ^ min 32 IntKind.u64.bits) = ((n / 4294967296 : Nat) : Int) := fun n => shr32 n
  generalize q * s = A' at *
  generalize p * s = B' at *
  generalize q * r = C' at *
  generalize p * r = D' at *
  have e4 : IntKind.u64.wrap ((B' : Int) + ((A' / 4294967296 : Nat) : Int)) = ((B' + A' / 4294967296 : Nat) : Int) := by rw [← Int.natCast_add]; exact wN _ (by omega)
  simp only [shr, e4]
  have a5 := and32 (B' + A' / 4294967296) (by omega)
  simp only [a5]
  have e7 : IntKind.u64.wrap ((((B' + A' / 4294967296) % 4294967296 : Nat) : Int) + (C' : Int)) = (((B' + A' / 4294967296) % 4294967296 + C' : Nat) : Int) := by rw [← Int.natCast_add]; exact wN _ (by omega)
  simp only [e7, shr]
  have e8 : IntKind.u64.wrap ((D' : Int) + (((B' + A' / 4294967296) / 4294967296 : Nat) : Int)) = ((D' + (B' + A' / 4294967296) / 4294967296 : Nat) : Int) := by rw [← Int.natCast_add]; exact wN _ (by omega)
  simp only [e8]
  have e9 : IntKind.u64.wrap (((D' + (B' + A' / 4294967296) / 4294967296 : Nat) : Int) + ((((B' + A' / 4294967296) % 4294967296 + C') / 4294967296 : Nat) : Int)) = ((D' + (B' + A' / 4294967296) / 4294967296 + ((B' + A' / 4294967296) % 4294967296 + C') / 4294967296 : Nat) : Int) := by rw [← Int.natCast_add]; exact wN _ (by omega)
  simp only [e9]
  rw [prod] at hS
  refine fin hS ?_
  have e : D' + (B' + A' / 4294967296) / 4294967296 + ((B' + A' / 4294967296) % 4294967296 + C') / 4294967296 = (D' * 18446744073709551616 + (B' + C') * 4294967296 + A') / 18446744073709551616 := by omega
  rw [e]
theorem times_pos {a b : Int} (h : decide (a < 0) = decide (b < 0)) : times a b = min ((a.natAbs * b.natAbs : Nat) : Int) 1099511627776 := by
  have e : a * b = ((a.natAbs * b.natAbs : Nat) : Int) := by
    rw [Int.natCast_mul]
    by_cases ha : a < 0
    · have hb : b < 0 := by simpa [ha] using h
      have e1 : -a = (a.natAbs : Int) := by omega
      have e2 : -b = (b.natAbs : Int) := by omega
      rw [← Int.neg_mul_neg, e1, e2]
    · have hb : ¬ b < 0 := by simpa [ha] using h
      have e1 : a = (a.natAbs : Int) := by omega
      have e2 : b = (b.natAbs : Int) := by omega
      rw [← e1, ← e2]
  rw [times, e, cut]; omega
theorem times_neg {a b : Int} (h : ¬ decide (a < 0) = decide (b < 0)) : times a b = - min ((a.natAbs * b.natAbs : Nat) : Int) 1099511627776 := by
  have e : a * b = - ((a.natAbs * b.natAbs : Nat) : Int) := by
    rw [Int.natCast_mul]
    by_cases ha : a < 0
    · have hb : ¬ b < 0 := by simpa [ha] using h
      have e1 : a = -(a.natAbs : Int) := by omega
      have e2 : b = (b.natAbs : Int) := by omega
      rw [← Int.neg_mul, ← e1, ← e2]
    · have hb : b < 0 := by
        by_cases hb : b < 0
        · exact hb
        · simp [ha, hb] at h
      have e1 : a = (a.natAbs : Int) := by omega
      have e2 : b = -(b.natAbs : Int) := by omega
      rw [← Int.mul_neg, ← e1, ← e2]
  rw [times, e, cut]; omega
theorem fin_int {S : V → Prop} {x y : Int} (h : S (.int .i64 x)) (e : y = x) : S (.k (.c (.int .i64 y))) := e ▸ h
theorem s106 (a b : Int) (ha : -1099511627776 ≤ a ∧ a ≤ 1099511627776) (hb : -1099511627776 ≤ b ∧ b ≤ 1099511627776) : Spec Try.prog 106 [.int .i64 a, .int .i64 b] (fun r => r = .int .i64 (times a b)) := by
  refine Spec.of_awlS hf106 okf106 (by simp) fun S hS => ?_
  have n1 : IntKind.i64.wrap (0 - a) = -a := by rw [wrap_in (by omega) (by omega)]; omega
  have n2 : IntKind.i64.wrap (0 - b) = -b := by rw [wrap_in (by omega) (by omega)]; omega
  have m1 : (if -a > a then -a else a) = (a.natAbs : Int) := by split <;> omega
  have m2 : (if -b > b then -b else b) = (b.natAbs : Int) := by split <;> omega
  have u1 : IntKind.u64.wrap (a.natAbs : Int) = a.natAbs := wrapu_in (by omega) (by omega)
  have u2 : IntKind.u64.wrap (b.natAbs : Int) = b.natAbs := wrapu_in (by omega) (by omega)
  simp only [n1, n2, m1, m2, u1, u2, q_wpLs_eq_1, q_wpLs_eq_2, q_wpL_eq_1, q_exL_eq_1, q_exL_eq_15, q_exL_eq_16, q_exL_eq_28, q_exL_eq_34, q_look_eq_1, q_look_eq_2, q_insT_eq_1, q_awl_eq_2, q_awl_eq_5, q_AE_thenL_eq_1, q_initT_eq_1, q_initT_eq_2, q_putK_eq_1, q_vUn_eq_1, q_unV_eq_1, q_mapC_eq_1, q_vConv_eq_1, q_vInts_eq_1, q_vInts_eq_2, q_foldV_eq_1, q_vMinmax_eq_1, q_minmaxI_eq_1, q_Option_map_some, q_List_map_cons, q_List_map_nil, q_List_foldl_cons, q_List_foldl_nil, true_and, if_true, Nat.reduceAdd, Nat.reduceBEq, Nat.zero_add, lookT_here, lookT_next, uf106, uf106r16, uf106b17, uf106r18, uf106b19]
  refine call_s (s108 a.natAbs b.natAbs (by omega) (by omega)) ?_
  simp only [q_wpLs_eq_1, q_wpLs_eq_2, q_wpL_eq_1, q_putDL_eq_1, q_AOp_dst_eq_1, q_AOp_dst_eq_10, q_exL_eq_1, q_exL_eq_3, q_exL_eq_11, q_exL_eq_12, q_exL_eq_15, q_exL_eq_16, q_exL_eq_27, q_look_eq_1, q_look_eq_2, q_lookO_eq_1, q_insT_eq_1, q_awl_eq_1, q_awl_eq_2, q_awl_eq_5, q_awl_eq_6, q_awl_eq_10, q_AE_thenL_eq_1, q_AE_thenL_eq_3, q_putK_eq_1, q_vBin_eq_1, q_resV_eq_1, q_binV_eq_1, q_binInt_eq_3, q_cutInt_eq_6, q_cutInt_eq_8, q_vBinB_eq_1, q_vUn_eq_1, q_unV_eq_1, q_mapC_eq_1, q_vConv_eq_1, q_vExtr_eq_1, q_vPick_eq_1, q_vPick_eq_3, q_mapT_eq_1, q_mapT_eq_2, q_mapO_eq_1, q_endK_eq_2, q_endL_eq_1, q_endV_eq_1, q_resL_eq_1, q_resL_eq_2, q_resX_eq_1, q_one_eq_1, q_V_nrm_eq_1, q_V_nrm_eq_4, q_V_nrm_eq_5, q_K_nrm_eq_1, q_V_nrmL_eq_1, q_V_nrmL_eq_2, q_V_owns_eq_1, q_K_owns_eq_2, q_V_toNew_eq_1, q_K_toNew_eq_1, q_C_norm_eq_4, q_C_norm_eq_5, q_Bool_not_true, q_List_getElemQ_cons_zero, q_List_getElemQ_cons_succ, true_and, if_true, and_self, Int.reduceNeg, List.nodup_nil, Nat.reduceBEq, q_learn_eq_1, q_guardP_eq_1, q_condK_eq_1, q_condB_eq_1, q_condB_eq_2, q_exK_eq_1, condB_decide, condB_beq, condB_not, lookT_here, lookT_next, Int.reduceSub, uf106r1, uf106b2, uf106r3, uf106b4, uf106b5, uf106r6, uf106b7, uf106b8, uf106r9, uf106b10, uf106r11, uf106b12, uf106b13, uf106r14, uf106b15]
  have hbd : a.natAbs * b.natAbs ≤ 1099511627776 * 1099511627776 := Nat.mul_le_mul (by omega) (by omega)
  generalize hp : a.natAbs * b.natAbs = p at *
  repeat' (first | with_reducible refine And.intro ?_ ?_ | with_reducible intro _)
  all_goals
    rename_i h
    refine fin_int hS ?_
    first
      | (rw [times_pos h, hp]; (try rw [wrap_in (by omega) (by omega)]); omega)
      | (rw [times_neg h, hp]; (try rw [wrap_in (n := ((p % 18446744073709551616 : Nat) : Int)) (by omega) (by omega)]); (try rw [wrap_in (by omega) (by omega)]); omega)
def inN (n : Int) : Prop := -1099511627776 ≤ n ∧ n ≤ 1099511627776
def arith (op a b : Int) : Int := if op = 9 then cut (a + b) else if op = 10 then cut (a - b) else if op = 11 then times a b else if op = 12 then min a b else max a b
theorem s95 (op a b : Int) (ha : inN a) (hb : inN b) : Spec Try.prog 95 [.int .i64 op, .int .i64 a, .int .i64 b] (fun r => r = .int .i64 (arith op a b)) := by
  refine Spec.of_awlS hf95 okf95 (by simp) fun S hS => ?_
  obtain ⟨a1, a2⟩ := ha
  obtain ⟨b1, b2⟩ := hb
  have w1 : IntKind.i64.wrap (a + b) = a + b := wrap_in (by omega) (by omega)
  have w2 : IntKind.i64.wrap (a - b) = a - b := wrap_in (by omega) (by omega)
  simp only [w1, w2, q_wpLs_eq_1, q_wpLs_eq_2, q_wpL_eq_1, q_exL_eq_1, q_exL_eq_11, q_exL_eq_28, q_exL_eq_34, q_look_eq_1, q_look_eq_2, q_lookO_eq_1, q_insT_eq_1, q_awl_eq_1, q_awl_eq_2, q_awl_eq_5, q_awl_eq_6, q_awl_eq_7, q_awl_eq_10, q_AE_thenL_eq_1, q_AE_thenL_eq_3, q_AE_inBlockL_eq_1, q_AE_inBlockL_eq_3, q_initT_eq_1, q_initT_eq_2, q_putK_eq_1, q_vBin_eq_1, q_resV_eq_1, q_binV_eq_1, q_binInt_eq_3, q_cutInt_eq_1, q_cutInt_eq_2, q_cutInt_eq_6, q_vInts_eq_1, q_vInts_eq_2, q_foldV_eq_1, q_vMinmax_eq_1, q_minmaxI_eq_1, q_mapT_eq_1, q_mapT_eq_2, q_mapO_eq_1, q_endK_eq_2, q_endL_eq_1, q_endV_eq_1, q_resL_eq_1, q_resL_eq_2, q_resX_eq_1, q_one_eq_1, q_V_nrm_eq_1, q_K_nrm_eq_1, q_V_owns_eq_1, q_K_owns_eq_2, q_V_toNew_eq_1, q_K_toNew_eq_1, q_C_norm_eq_4, q_C_norm_eq_5, q_Option_map_some, q_List_map_cons, q_List_map_nil, q_List_foldl_cons, q_List_foldl_nil, true_and, if_true, if_false, Bool.false_eq_true, and_self, List.nodup_nil, Nat.reduceAdd, Nat.reduceBEq, Nat.zero_add, q_learn_eq_1, q_condK_eq_1, condB_beq, lookT_here, lookT_next, uf95, uf95r1, uf95b2, uf95r3, uf95b4, uf95r5, uf95b6, uf95r7, uf95b8, uf95r9, uf95b10, uf95b11, uf95r12, uf95b13, uf95b14, uf95r15, uf95b16, uf95b17, uf95r18, uf95b19, uf95b20, uf95r21, uf95b22, uf95b23, uf95r24, uf95b25, uf95b26, uf95r27, uf95b28]
  repeat' (first | with_reducible refine And.intro ?_ ?_ | with_reducible intro _)
  · refine call_s (s93 (a + b)) ?_
    simp only [q_wpLs_eq_1, q_wpLs_eq_2, q_wpL_eq_1, q_exL_eq_1, q_look_eq_1, q_lookO_eq_1, q_insT_eq_1, q_awl_eq_10, q_AE_thenL_eq_3, q_AE_inBlockL_eq_3, q_mapT_eq_1, q_mapT_eq_2, q_mapO_eq_1, q_endK_eq_2, q_endL_eq_1, q_endV_eq_1, q_resL_eq_1, q_resL_eq_2, q_resX_eq_1, q_one_eq_1, q_V_nrm_eq_1, q_K_nrm_eq_1, q_V_owns_eq_1, q_K_owns_eq_2, q_V_toNew_eq_1, q_K_toNew_eq_1, q_C_norm_eq_4, q_C_norm_eq_5, true_and, and_self, List.nodup_nil, lookT_here]
    exact fin_int hS (by simp_all [arith])
  · refine call_s (s93 (a - b)) ?_
    simp only [q_wpLs_eq_1, q_wpLs_eq_2, q_wpL_eq_1, q_exL_eq_1, q_look_eq_1, q_lookO_eq_1, q_insT_eq_1, q_awl_eq_10, q_AE_thenL_eq_3, q_AE_inBlockL_eq_3, q_mapT_eq_1, q_mapT_eq_2, q_mapO_eq_1, q_endK_eq_2, q_endL_eq_1, q_endV_eq_1, q_resL_eq_1, q_resL_eq_2, q_resX_eq_1, q_one_eq_1, q_V_nrm_eq_1, q_K_nrm_eq_1, q_V_owns_eq_1, q_K_owns_eq_2, q_V_toNew_eq_1, q_K_toNew_eq_1, q_C_norm_eq_4, q_C_norm_eq_5, true_and, and_self, List.nodup_nil, lookT_here]
    exact fin_int hS (by simp_all [arith])
  · refine call_s (s106 a b ⟨a1, a2⟩ ⟨b1, b2⟩) ?_
    simp only [q_wpLs_eq_1, q_wpLs_eq_2, q_wpL_eq_1, q_exL_eq_1, q_look_eq_1, q_lookO_eq_1, q_insT_eq_1, q_awl_eq_10, q_AE_thenL_eq_3, q_AE_inBlockL_eq_3, q_mapT_eq_1, q_mapT_eq_2, q_mapO_eq_1, q_endK_eq_2, q_endL_eq_1, q_endV_eq_1, q_resL_eq_1, q_resL_eq_2, q_resX_eq_1, q_one_eq_1, q_V_nrm_eq_1, q_K_nrm_eq_1, q_V_owns_eq_1, q_K_owns_eq_2, q_V_toNew_eq_1, q_K_toNew_eq_1, q_C_norm_eq_4, q_C_norm_eq_5, true_and, and_self, List.nodup_nil, lookT_here]
    exact fin_int hS (by simp_all [arith])
  · exact fin_int hS (by simp_all [arith]; split <;> omega)
  · exact fin_int hS (by simp_all [arith]; split <;> omega)
end Go.Abs


set_option maxRecDepth 100000
set_option maxHeartbeats 4000000
namespace Go.Abs
open Go.Proofs
theorem s77 (op : Int) (l : List Cell) (h1 : 3 ≤ op) (h2 : op ≤ 13) (hl : (l.length : Int) = arity op) (hN : ∀ c ∈ l, inN c.n) (h3 : op = 3 → (l.getD 0 ⟨false, 0⟩).known = true → (l.getD 0 ⟨false, 0⟩).n = 0 ∨ (l.getD 0 ⟨false, 0⟩).n = 1)
    (h6 : op = 6 → (l.getD 0 ⟨false, 0⟩).known = false) : Spec Try.prog 77 [.int .i64 op, lst 2 (l.map encCell)] (fun r => r = encCV (evalN op l)) := by
  have q0 : 0 < l.length := by have : 0 < arity op := by { unfold arity; (repeat' split) <;> omega }; omega
  obtain ⟨k0, n0, e0⟩ : ∃ k n, l[0] = Cell.mk k n := ⟨_, _, rfl⟩
  have g0 : l.getD 0 ⟨false, 0⟩ = ⟨k0, n0⟩ := by simp [List.getD_eq_getElem?_getD, List.getElem?_eq_getElem q0, e0]
  have b0 : inN n0 := by have := hN l[0] (List.getElem_mem q0); rw [e0] at this; exact this
  have i0 : (0 : Int) < l.length := by omega
  refine Spec.of_awlS hf77 okf77 (by simp) fun S hS => ?_
  by_cases c3 : op = 3
  · subst c3
    have h3 := h3 rfl
    rw [g0] at h3
    cases k0
    · simp only [i0, cell_at q0, e0, q_wpLs_eq_1, q_wpLs_eq_2, q_wpL_eq_1, q_exL_eq_1, q_exL_eq_4, q_exL_eq_6, q_exL_eq_8, q_exL_eq_9, q_exL_eq_11, q_exL_eq_21, q_exL_eq_23, q_look_eq_1, q_look_eq_2, q_insT_eq_1, q_insO_eq_1, q_awl_eq_1, q_awl_eq_2, q_awl_eq_5, q_awl_eq_6, q_awl_eq_7, q_awl_eq_10, q_AE_thenL_eq_1, q_AE_thenL_eq_3, q_AE_inBlockL_eq_3, q_initT_eq_1, q_initT_eq_2, q_putK_eq_1, q_vBin_eq_1, q_resV_eq_1, q_binV_eq_1, q_binInt_eq_3, q_cutInt_eq_6, q_vFaddr_eq_3, q_partV_eq_2, q_vLoad_eq_2, q_vBuild_eq_1, q_rowV_eq_1, q_ofRow_eq_2, q_pureRow_eq_1, q_pureRow_eq_2, q_V_cells_eq_2, q_splice_eq_1, q_stVarK_eq_1, q_storeK_eq_1, q_mapT_eq_1, q_mapT_eq_2, q_mapO_eq_1, q_mapO_eq_2, q_freeB_eq_1, q_freeT_eq_1, q_freeT_eq_2, q_freeO_eq_1, q_V_noRef_eq_1, q_K_noRef_eq_1, q_endK_eq_2, q_endL_eq_1, q_endV_eq_1, q_resL_eq_1, q_resL_eq_2, q_resX_eq_2, q_resCell_eq_1, q_one_eq_1, q_V_nrm_eq_1, q_V_nrm_eq_2, q_K_nrm_eq_1, q_K_nrm_eq_2, q_K_nrm_eq_3, q_O_nrm_eq_1, q_V_owns_eq_4, q_V_toNew_eq_2, q_C_norm_eq_4, q_C_norm_eq_5, q_C_normRow_eq_1, q_C_normRow_eq_2, q_Option_map_some, q_List_map_cons, q_List_map_nil, q_List_take_succ_cons, q_List_take_zero, q_List_drop_succ_cons, q_List_drop_zero, q_List_nil_append, q_List_length_cons, q_List_length_nil, q_List_getD_cons_zero, true_and, if_true, and_self, Bool.and_true, Bool.or_true, BEq.rfl, List.append_nil, List.nodup_nil, Nat.reduceAdd, Nat.reduceLeDiff, Nat.reduceLT, Nat.reduceBEq, Nat.zero_add, Nat.add_zero, Int.toNat_zero, Nat.le_refl, q_learn_eq_1, q_condK_eq_1, q_condB_eq_1, q_condB_eq_2, r_vIaddr_lst, norm_lst, normRows_Ce, List.length_map, lookT_here, lookT_next, Int.reduceLE, lookO_here, uf77, uf77r33, uf77b34, uf77b37, uf77r38, uf77b39, uf77b40, uf77b65, uf77r66, uf77b67, uf77b68, uf77r69, uf77b70, uf77b71, uf77r72, uf77b73]
      exact fin_cell hS (by simp only [evalN, g0]; simp)
    · simp only [i0, cell_at q0, e0, q_wpLs_eq_1, q_wpLs_eq_2, q_wpL_eq_1, q_exL_eq_1, q_exL_eq_4, q_exL_eq_8, q_exL_eq_11, q_exL_eq_21, q_exL_eq_23, q_exL_eq_28, q_look_eq_1, q_look_eq_2, q_insT_eq_1, q_insO_eq_1, q_awl_eq_2, q_awl_eq_5, q_awl_eq_6, q_awl_eq_7, q_AE_thenL_eq_1, q_initT_eq_1, q_initT_eq_2, q_putK_eq_1, q_vBin_eq_1, q_resV_eq_1, q_binV_eq_1, q_binInt_eq_3, q_cutInt_eq_6, q_vFaddr_eq_3, q_partV_eq_2, q_vLoad_eq_2, q_freeB_eq_1, q_freeT_eq_1, q_freeT_eq_2, q_freeO_eq_1, q_V_noRef_eq_1, q_K_noRef_eq_1, q_List_map_cons, q_List_map_nil, q_List_getD_cons_zero, q_List_getD_cons_succ, true_and, if_true, and_self, Bool.and_true, Bool.or_true, BEq.rfl, Nat.reduceAdd, Nat.reduceLeDiff, Nat.reduceBEq, Nat.zero_add, Nat.add_zero, Int.toNat_zero, Nat.le_refl, q_learn_eq_1, q_condK_eq_1, q_condB_eq_1, r_vIaddr_lst, List.length_map, lookT_here, lookT_next, Int.reduceLE, uf77, uf77r35, uf77b36, uf77b37, uf77r38, uf77b39, uf77b40, uf77b65, uf77r66, uf77b67, uf77b68, uf77r69, uf77b70, uf77b71, uf77r72, uf77b73]
      refine call_r (s94 (n0 == 0)) ?_
      simp only [encCV, encCell, q_wpLs_eq_1, q_wpLs_eq_2, q_wpL_eq_1, q_exL_eq_9, q_look_eq_1, q_insT_eq_1, q_insO_eq_1, q_awl_eq_10, q_AE_thenL_eq_3, q_AE_inBlockL_eq_3, q_ofRow_eq_2, q_pureRow_eq_1, q_pureRow_eq_2, q_V_cells_eq_2, q_splice_eq_1, q_stVarK_eq_1, q_storeK_eq_1, q_mapT_eq_1, q_mapT_eq_2, q_mapO_eq_1, q_mapO_eq_2, q_endK_eq_2, q_endL_eq_1, q_endV_eq_1, q_resL_eq_1, q_resL_eq_2, q_resX_eq_2, q_resCell_eq_1, q_one_eq_1, q_V_nrm_eq_1, q_V_nrm_eq_2, q_K_nrm_eq_1, q_K_nrm_eq_2, q_K_nrm_eq_3, q_O_nrm_eq_1, q_V_owns_eq_4, q_V_toNew_eq_2, q_C_norm_eq_4, q_C_norm_eq_5, q_C_normRow_eq_1, q_C_normRow_eq_2, q_regN_eq_2, q_V_reg_eq_4, q_freesL_eq_1, q_addsL_eq_1, q_regK_eq_1, q_retK_eq_2, q_Option_map_some, q_List_map_cons, q_List_map_nil, q_List_take_succ_cons, q_List_take_zero, q_List_drop_succ_cons, q_List_drop_zero, q_List_nil_append, q_List_length_cons, q_List_length_nil, true_and, if_true, and_self, List.append_nil, List.nodup_nil, Nat.reduceAdd, Nat.reduceMul, Nat.reduceLT, Nat.reduceBEq, Nat.zero_add, Nat.le_refl, norm_lst, normRows_Ce, lookT_here, lookT_next, lookO_here]
      refine fin hS (encCV_eq (a := yes (n0 == 0)) ?_)
      rcases h3 rfl with h | h <;> simp only [] at h <;> subst h <;> simp only [evalN, g0, yes] <;> simp
  have q1 : 1 < l.length := by have : 1 < arity op := by { unfold arity; (repeat' split) <;> omega }; omega
  obtain ⟨k1, n1, e1⟩ : ∃ k n, l[1] = Cell.mk k n := ⟨_, _, rfl⟩
  have g1 : l.getD 1 ⟨false, 0⟩ = ⟨k1, n1⟩ := by simp [List.getD_eq_getElem?_getD, List.getElem?_eq_getElem q1, e1]
  have b1 : inN n1 := by have := hN l[1] (List.getElem_mem q1); rw [e1] at this; exact this
  have i1 : (1 : Int) < l.length := by omega
  by_cases c6 : op = 6
  · subst c6
    have h6 := h6 rfl
    rw [g0] at h6
    have q2 : 2 < l.length := by have : arity 6 = 3 := by decide
                                 omega
    obtain ⟨k2, n2, e2⟩ : ∃ k n, l[2] = Cell.mk k n := ⟨_, _, rfl⟩
    have g2 : l.getD 2 ⟨false, 0⟩ = ⟨k2, n2⟩ := by simp [List.getD_eq_getElem?_getD, List.getElem?_eq_getElem q2, e2]
    have i2 : (2 : Int) < l.length := by omega
    simp only [] at h6
    subst h6
    cases k1
    · simp only [i0, i1, i2, cell_at q0, cell_at q1, cell_at q2, e0, e1, e2, q_wpLs_eq_1, q_wpLs_eq_2, q_wpLQs_eq_1, q_wpLQs_eq_2, q_wpL_eq_1, q_wpLQ_eq_1, q_putDL_eq_1, q_AOp_dst_eq_1, q_AOp_dst_eq_8, q_AOp_dst_eq_12, q_AOp_dst_eq_22, q_exL_eq_1, q_exL_eq_4, q_exL_eq_6, q_exL_eq_9, q_exL_eq_11, q_exLQ_eq_1, q_exLQ_eq_3, q_exLQ_eq_9, q_exLQ_eq_22, q_exLQ_eq_24, q_look_eq_1, q_look_eq_2, q_insT_eq_1, q_insO_eq_1, q_awl_eq_1, q_awl_eq_2, q_awl_eq_3, q_awl_eq_5, q_awl_eq_6, q_awl_eq_7, q_awl_eq_10, q_AE_thenL_eq_1, q_AE_thenL_eq_3, q_AE_inBlockL_eq_3, q_initT_eq_1, q_initT_eq_2, q_putK_eq_1, q_vBin_eq_1, q_resV_eq_1, q_binV_eq_1, q_binInt_eq_3, q_cutInt_eq_6, q_vFaddr_eq_3, q_partV_eq_2, q_vLoad_eq_2, q_vPick_eq_3, q_vBuild_eq_1, q_rowV_eq_1, q_ofRow_eq_2, q_pureRow_eq_1, q_pureRow_eq_2, q_V_cells_eq_2, q_splice_eq_1, q_stVarK_eq_1, q_storeK_eq_1, q_mapT_eq_1, q_mapT_eq_2, q_mapO_eq_1, q_mapO_eq_2, q_freeB_eq_1, q_freeT_eq_1, q_freeT_eq_2, q_freeO_eq_1, q_V_noRef_eq_1, q_K_noRef_eq_1, q_endK_eq_2, q_endL_eq_1, q_endV_eq_1, q_resL_eq_1, q_resL_eq_2, q_resX_eq_2, q_resCell_eq_1, q_one_eq_1, q_V_nrm_eq_1, q_V_nrm_eq_2, q_V_nrm_eq_5, q_K_nrm_eq_1, q_K_nrm_eq_2, q_K_nrm_eq_3, q_O_nrm_eq_1, q_V_owns_eq_4, q_V_toNew_eq_2, q_C_norm_eq_4, q_C_norm_eq_5, q_C_normRow_eq_1, q_C_normRow_eq_2, q_Bool_not_true, q_Option_map_some, q_List_map_cons, q_List_map_nil, q_List_take_succ_cons, q_List_take_zero, q_List_drop_succ_cons, q_List_drop_zero, q_List_nil_append, q_List_length_cons, q_List_length_nil, q_List_getD_cons_zero, true_and, if_true, and_self, Bool.and_true, Bool.or_true, BEq.rfl, List.append_nil, List.nodup_nil, Nat.reduceAdd, Nat.reduceLeDiff, Nat.reduceLT, Nat.reduceBEq, Nat.zero_add, Nat.add_zero, Nat.le_refl, q_learn_eq_1, q_guardP_eq_1, q_condK_eq_1, q_condB_eq_1, q_condB_eq_2, r_vIaddr_lst, norm_lst, normRows_Ce, List.length_map, lookT_here, lookT_next, Int.reduceLE, Int.reduceToNat, Int.reduceBEq, lookO_here, uf77, uf77r48, uf77b49, uf77b52, uf77r53, uf77b54, uf77b55, uf77b56, uf77r57, uf77b58, uf77b59, uf77r60, uf77b61, uf77r62, uf77b63, uf77b64, uf77b65, uf77r66, uf77b67, uf77b68, uf77r69, uf77b70, uf77b71, uf77r72, uf77b73]
      exact fin_cell hS (by simp only [evalN, g0, g1]; simp)
    · cases k2
      · simp only [i0, i1, i2, cell_at q0, cell_at q1, cell_at q2, e0, e1, e2, q_wpLs_eq_1, q_wpLs_eq_2, q_wpLQs_eq_1, q_wpLQs_eq_2, q_wpL_eq_1, q_wpLQ_eq_1, q_AOp_dst_eq_1, q_AOp_dst_eq_8, q_AOp_dst_eq_12, q_AOp_dst_eq_22, q_exL_eq_1, q_exL_eq_4, q_exL_eq_6, q_exL_eq_9, q_exL_eq_11, q_exLQ_eq_1, q_exLQ_eq_3, q_exLQ_eq_9, q_exLQ_eq_14, q_exLQ_eq_22, q_exLQ_eq_24, q_look_eq_1, q_look_eq_2, q_insT_eq_1, q_insO_eq_1, q_awl_eq_1, q_awl_eq_2, q_awl_eq_3, q_awl_eq_5, q_awl_eq_6, q_awl_eq_7, q_awl_eq_10, q_AE_thenL_eq_1, q_AE_thenL_eq_3, q_AE_inBlockL_eq_3, q_initT_eq_1, q_initT_eq_2, q_putK_eq_1, q_vBin_eq_1, q_resV_eq_1, q_binV_eq_1, q_binInt_eq_3, q_cutInt_eq_6, q_vEqAgg_eq_1, q_mapV_eq_1, q_eqRow_eq_1, q_eqRow_eq_2, q_eqC_eq_1, q_eqC_eq_2, q_vFaddr_eq_3, q_partV_eq_1, q_partV_eq_2, q_vLoad_eq_2, q_vPick_eq_1, q_vBuild_eq_1, q_rowV_eq_1, q_ofRow_eq_2, q_pureRow_eq_1, q_pureRow_eq_2, q_V_cells_eq_2, q_splice_eq_1, q_stVarK_eq_1, q_storeK_eq_1, q_mapT_eq_1, q_mapT_eq_2, q_mapO_eq_1, q_mapO_eq_2, q_freeB_eq_1, q_freeT_eq_1, q_freeT_eq_2, q_freeO_eq_1, q_V_noRef_eq_1, q_K_noRef_eq_1, q_endK_eq_2, q_endL_eq_1, q_endV_eq_1, q_resL_eq_1, q_resL_eq_2, q_resX_eq_2, q_resCell_eq_1, q_one_eq_1, q_V_nrm_eq_1, q_V_nrm_eq_2, q_K_nrm_eq_1, q_K_nrm_eq_2, q_K_nrm_eq_3, q_O_nrm_eq_1, q_V_owns_eq_4, q_V_toNew_eq_2, q_C_norm_eq_4, q_C_norm_eq_5, q_C_normRow_eq_1, q_C_normRow_eq_2, q_Bool_not_true, q_Bool_not_false, q_Option_map_some, q_List_map_cons, q_List_map_nil, q_List_take_succ_cons, q_List_take_zero, q_List_drop_succ_cons, q_List_drop_zero, q_List_nil_append, q_List_length_cons, q_List_length_nil, q_List_getD_cons_zero, true_and, if_true, if_false, Bool.false_eq_true, and_self, Bool.and_true, Bool.or_true, BEq.rfl, List.append_nil, List.nodup_nil, Nat.reduceAdd, Nat.reduceLeDiff, Nat.reduceLT, Nat.reduceBEq, Nat.zero_add, Nat.add_zero, Nat.le_refl, q_learn_eq_1, q_guardP_eq_1, q_condK_eq_1, q_condB_eq_1, q_condB_eq_2, q_exKQ_eq_1, r_vIaddr_lst, norm_lst, normRows_Ce, List.length_map, lookT_here, lookT_next, Int.reduceLE, Int.reduceToNat, Int.reduceBEq, lookO_here, Option.bind_some, b_tf, Bool.false_and, uf77, uf77r48, uf77b49, uf77b52, uf77r53, uf77b54, uf77b55, uf77b56, uf77r57, uf77b58, uf77b59, uf77r60, uf77b61, uf77r62, uf77b63, uf77b64, uf77b65, uf77r66, uf77b67, uf77b68, uf77r69, uf77b70, uf77b71, uf77r72, uf77b73]
        exact fin_cell hS (by simp only [evalN, g0, g1, g2]; simp)
      · simp only [i0, i1, i2, cell_at q0, cell_at q1, cell_at q2, e0, e1, e2, q_wpLs_eq_1, q_wpLs_eq_2, q_wpLQs_eq_1, q_wpLQs_eq_2, q_wpL_eq_1, q_wpLQ_eq_1, q_AOp_dst_eq_1, q_AOp_dst_eq_8, q_AOp_dst_eq_12, q_AOp_dst_eq_22, q_exL_eq_1, q_exL_eq_4, q_exL_eq_6, q_exL_eq_8, q_exL_eq_9, q_exL_eq_11, q_exL_eq_23, q_exLQ_eq_1, q_exLQ_eq_3, q_exLQ_eq_9, q_exLQ_eq_14, q_exLQ_eq_22, q_exLQ_eq_24, q_look_eq_1, q_look_eq_2, q_insT_eq_1, q_insO_eq_1, q_awl_eq_1, q_awl_eq_2, q_awl_eq_3, q_awl_eq_5, q_awl_eq_6, q_awl_eq_7, q_awl_eq_10, q_AE_thenL_eq_1, q_AE_thenL_eq_3, q_AE_inBlockL_eq_3, q_initT_eq_1, q_initT_eq_2, q_putK_eq_1, q_vBin_eq_1, q_resV_eq_1, q_binV_eq_1, q_binInt_eq_3, q_cutInt_eq_6, q_vEqAgg_eq_1, q_mapV_eq_1, q_eqRow_eq_1, q_eqRow_eq_2, q_eqC_eq_1, q_eqC_eq_2, q_vFaddr_eq_3, q_partV_eq_1, q_partV_eq_2, q_vLoad_eq_2, q_vPick_eq_1, q_vBuild_eq_1, q_rowV_eq_1, q_ofRow_eq_2, q_pureRow_eq_1, q_pureRow_eq_2, q_V_cells_eq_2, q_splice_eq_1, q_stVarK_eq_1, q_storeK_eq_1, q_mapT_eq_1, q_mapT_eq_2, q_mapO_eq_1, q_mapO_eq_2, q_freeB_eq_1, q_freeT_eq_1, q_freeT_eq_2, q_freeO_eq_1, q_V_noRef_eq_1, q_K_noRef_eq_1, q_endK_eq_2, q_endL_eq_1, q_endV_eq_1, q_resL_eq_1, q_resL_eq_2, q_resX_eq_2, q_resCell_eq_1, q_one_eq_1, q_V_nrm_eq_1, q_V_nrm_eq_2, q_K_nrm_eq_1, q_K_nrm_eq_2, q_K_nrm_eq_3, q_O_nrm_eq_1, q_V_owns_eq_4, q_V_toNew_eq_2, q_C_norm_eq_4, q_C_norm_eq_5, q_C_normRow_eq_1, q_C_normRow_eq_2, q_Bool_not_true, q_Option_map_some, q_List_map_cons, q_List_map_nil, q_List_take_succ_cons, q_List_take_zero, q_List_drop_succ_cons, q_List_drop_zero, q_List_nil_append, q_List_length_cons, q_List_length_nil, q_List_getD_cons_zero, true_and, if_true, if_false, Bool.false_eq_true, and_self, Bool.and_true, Bool.true_and, Bool.or_true, BEq.rfl, List.append_nil, List.nodup_nil, Nat.reduceAdd, Nat.reduceLeDiff, Nat.reduceLT, Nat.reduceBEq, Nat.zero_add, Nat.add_zero, Nat.le_refl, q_learn_eq_1, q_guardP_eq_1, q_condK_eq_1, q_condB_eq_1, q_condB_eq_2, q_exKQ_eq_1, condB_beq, r_vIaddr_lst, norm_lst, normRows_Ce, List.length_map, lookT_here, lookT_next, Int.reduceLE, Int.reduceToNat, Int.reduceBEq, lookO_here, Option.bind_some, uf77, uf77r48, uf77b49, uf77r50, uf77b51, uf77b52, uf77r53, uf77b54, uf77b55, uf77b56, uf77r57, uf77b58, uf77b59, uf77r60, uf77b61, uf77r62, uf77b63, uf77b64, uf77b65, uf77r66, uf77b67, uf77b68, uf77r69, uf77b70, uf77b71, uf77r72, uf77b73]
        refine ⟨fun h => fin_cell hS (by simp only [evalN, g0, g1, g2]; simp [h]), fun h => fin_cell hS (by simp only [evalN, g0, g1, g2]; simp [h])⟩
  by_cases c45 : op = 4 ∨ op = 5
  · have hS' : S (encCV (logic ⟨k0, n0⟩ ⟨k1, n1⟩ (if op = 5 then 1 else 0))) := by
      refine fin hS (encCV_eq ?_)
      rcases c45 with rfl | rfl <;> simp only [evalN, g0, g1] <;> simp
    rcases c45 with rfl | rfl
    · simp only [i0, i1, cell_at q0, cell_at q1, e0, e1, q_wpLs_eq_1, q_wpLs_eq_2, q_wpL_eq_1, q_exL_eq_1, q_exL_eq_4, q_exL_eq_11, q_exL_eq_28, q_look_eq_1, q_look_eq_2, q_insT_eq_1, q_insO_eq_1, q_awl_eq_1, q_awl_eq_2, q_awl_eq_5, q_awl_eq_6, q_awl_eq_7, q_AE_thenL_eq_1, q_initT_eq_1, q_initT_eq_2, q_putK_eq_1, q_vBin_eq_1, q_resV_eq_1, q_binV_eq_1, q_binInt_eq_3, q_cutInt_eq_6, q_freeB_eq_1, q_freeT_eq_1, q_freeT_eq_2, q_freeO_eq_1, q_V_noRef_eq_1, q_K_noRef_eq_1, q_List_map_cons, q_List_map_nil, true_and, if_true, Bool.and_true, Bool.or_true, BEq.rfl, Nat.reduceAdd, Nat.reduceBEq, Nat.zero_add, q_learn_eq_1, q_condK_eq_1, q_condB_eq_1, q_condB_eq_2, lookT_here, lookT_next, Int.reduceBEq, uf77, uf77r46, uf77b47, uf77b59, uf77r60, uf77b61, uf77r62, uf77b63, uf77b64, uf77b65, uf77r66, uf77b67, uf77b68, uf77r69, uf77b70, uf77b71, uf77r72, uf77b73]
      refine call_r (s94 false) ?_
      cases k0 <;> cases k1
      all_goals
        simp only [encCV, encCell, yes, i0, i1, cell_at q0, cell_at q1, e0, e1, q_wpLs_eq_1, q_wpLs_eq_2, q_wpLQs_eq_1, q_wpLQs_eq_2, q_wpL_eq_1, q_wpLQ_eq_1, q_putDL_eq_1, q_AOp_dst_eq_1, q_AOp_dst_eq_8, q_AOp_dst_eq_12, q_AOp_dst_eq_14, q_AOp_dst_eq_20, q_AOp_dst_eq_22, q_exL_eq_1, q_exL_eq_3, q_exL_eq_4, q_exL_eq_6, q_exL_eq_8, q_exL_eq_9, q_exL_eq_11, q_exL_eq_15, q_exL_eq_21, q_exL_eq_23, q_exL_eq_28, q_exLQ_eq_1, q_exLQ_eq_3, q_exLQ_eq_9, q_exLQ_eq_14, q_exLQ_eq_22, q_exLQ_eq_24, q_look_eq_1, q_look_eq_2, q_insT_eq_1, q_insO_eq_1, q_awl_eq_1, q_awl_eq_2, q_awl_eq_3, q_awl_eq_5, q_awl_eq_6, q_awl_eq_7, q_awl_eq_10, q_AE_thenL_eq_1, q_AE_thenL_eq_3, q_AE_inBlockL_eq_1, q_AE_inBlockL_eq_3, q_putK_eq_1, q_vBin_eq_1, q_resV_eq_1, q_binV_eq_1, q_binInt_eq_3, q_cutInt_eq_6, q_vEqAgg_eq_1, q_mapV_eq_1, q_eqRow_eq_1, q_eqRow_eq_2, q_eqC_eq_1, q_eqC_eq_2, q_vUn_eq_1, q_unV_eq_2, q_mapC_eq_1, q_vFaddr_eq_3, q_partV_eq_1, q_partV_eq_2, q_loadO_eq_1, q_isV_eq_1, q_vLoad_eq_1, q_vLoad_eq_2, q_vPick_eq_1, q_vPick_eq_2, q_vBuild_eq_1, q_rowV_eq_1, q_ofRow_eq_2, q_pureRow_eq_1, q_pureRow_eq_2, q_V_cells_eq_2, q_splice_eq_1, q_stVarK_eq_1, q_storeK_eq_1, q_mapT_eq_1, q_mapT_eq_2, q_mapO_eq_1, q_mapO_eq_2, q_freeB_eq_1, q_freeT_eq_1, q_freeT_eq_2, q_freeO_eq_1, q_freeO_eq_2, q_V_noRef_eq_1, q_V_noRef_eq_2, q_K_noRef_eq_1, q_K_noRef_eq_3, q_O_noRef_eq_1, q_endK_eq_2, q_endL_eq_1, q_endV_eq_1, q_resL_eq_1, q_resL_eq_2, q_resX_eq_2, q_resCell_eq_1, q_one_eq_1, q_V_nrm_eq_1, q_V_nrm_eq_2, q_V_nrm_eq_5, q_K_nrm_eq_1, q_K_nrm_eq_2, q_K_nrm_eq_3, q_O_nrm_eq_1, q_V_owns_eq_4, q_V_toNew_eq_2, q_C_norm_eq_4, q_C_norm_eq_5, q_C_normRow_eq_1, q_C_normRow_eq_2, q_regN_eq_2, q_V_reg_eq_4, q_freesL_eq_1, q_addsL_eq_1, q_regK_eq_1, q_retK_eq_2, q_Bool_not_true, q_Bool_not_false, q_Option_map_some, q_List_map_cons, q_List_map_nil, q_List_take_succ_cons, q_List_take_zero, q_List_drop_succ_cons, q_List_drop_zero, q_List_nil_append, q_List_length_cons, q_List_length_nil, q_List_getD_cons_zero, q_List_getD_cons_succ, q_List_all_cons, q_List_all_nil, true_and, if_true, if_false, Bool.false_eq_true, and_self, bne_iff_ne, ne_eq, Bool.and_true, Bool.true_and, Bool.or_true, Bool.false_or, BEq.rfl, List.append_nil, List.nodup_nil, Nat.reduceAdd, Nat.reduceMul, Nat.reduceEqDiff, Nat.reduceLeDiff, Nat.reduceLT, Nat.reduceBEq, Nat.zero_add, Nat.add_zero, Int.toNat_zero, Nat.le_refl, q_learn_eq_1, not_false_eq_true, q_guardP_eq_2, q_condK_eq_1, q_condB_eq_1, q_condB_eq_2, q_exK_eq_1, q_exKQ_eq_1, condB_beq, r_vIaddr_lst, norm_lst, normRows_Ce, List.length_map, lookT_here, lookT_next, Int.reduceLE, Int.reduceToNat, lookO_here, lookO_next, Option.bind_some, b_ft, Bool.false_and, uf77r3, uf77b4, uf77b15, uf77r16, uf77b17, uf77r18, uf77b19, uf77b20, uf77b21, uf77r22, uf77b23, uf77b24, uf77r25, uf77b26, uf77r27, uf77b28, uf77b29, uf77r30, uf77b31, uf77b32, uf77r41, uf77b42, uf77b43, uf77r44, uf77b45]
        repeat' (first | with_reducible refine And.intro ?_ ?_ | with_reducible intro _)
      all_goals first | (exact fin_cell hS' (by simp_all [logic])) | (refine call_r (s94 true) ?_; simp only [encCV, encCell, yes, q_wpLs_eq_1, q_wpLs_eq_2, q_wpL_eq_1, q_exL_eq_9, q_look_eq_1, q_insT_eq_1, q_insO_eq_1, q_awl_eq_10, q_AE_thenL_eq_3, q_AE_inBlockL_eq_3, q_ofRow_eq_2, q_pureRow_eq_1, q_pureRow_eq_2, q_V_cells_eq_2, q_splice_eq_1, q_stVarK_eq_1, q_storeK_eq_1, q_mapT_eq_1, q_mapT_eq_2, q_mapO_eq_1, q_mapO_eq_2, q_endK_eq_2, q_endL_eq_1, q_endV_eq_1, q_resL_eq_1, q_resL_eq_2, q_resX_eq_2, q_resCell_eq_1, q_one_eq_1, q_V_nrm_eq_1, q_V_nrm_eq_2, q_K_nrm_eq_1, q_K_nrm_eq_2, q_K_nrm_eq_3, q_O_nrm_eq_1, q_V_owns_eq_4, q_V_toNew_eq_2, q_C_norm_eq_4, q_C_norm_eq_5, q_C_normRow_eq_1, q_C_normRow_eq_2, q_regN_eq_2, q_V_reg_eq_4, q_freesL_eq_1, q_addsL_eq_1, q_regK_eq_1, q_retK_eq_2, q_Option_map_some, q_List_map_cons, q_List_map_nil, q_List_take_succ_cons, q_List_take_zero, q_List_drop_succ_cons, q_List_drop_zero, q_List_nil_append, q_List_length_cons, q_List_length_nil, true_and, if_true, and_self, List.append_nil, List.nodup_nil, Nat.reduceAdd, Nat.reduceMul, Nat.reduceLT, Nat.reduceBEq, Nat.zero_add, Nat.le_refl, norm_lst, normRows_Ce, lookT_here, lookT_next, lookO_here, lookO_next]; exact fin_cell hS' (by simp_all [logic]))
    · simp only [i0, i1, cell_at q0, cell_at q1, e0, e1, q_wpLs_eq_1, q_wpLs_eq_2, q_wpL_eq_1, q_exL_eq_1, q_exL_eq_4, q_exL_eq_11, q_exL_eq_28, q_look_eq_1, q_look_eq_2, q_insT_eq_1, q_insO_eq_1, q_awl_eq_2, q_awl_eq_5, q_awl_eq_6, q_awl_eq_7, q_AE_thenL_eq_1, q_initT_eq_1, q_initT_eq_2, q_putK_eq_1, q_vBin_eq_1, q_resV_eq_1, q_binV_eq_1, q_binInt_eq_3, q_cutInt_eq_6, q_freeB_eq_1, q_freeT_eq_1, q_freeT_eq_2, q_freeO_eq_1, q_V_noRef_eq_1, q_K_noRef_eq_1, q_List_map_cons, q_List_map_nil, true_and, if_true, Bool.and_true, Bool.or_true, BEq.rfl, Nat.reduceAdd, Nat.reduceBEq, Nat.zero_add, q_learn_eq_1, q_condK_eq_1, q_condB_eq_1, q_condB_eq_2, lookT_here, lookT_next, Int.reduceBEq, uf77, uf77r46, uf77b47, uf77b59, uf77r60, uf77b61, uf77r62, uf77b63, uf77b64, uf77b65, uf77r66, uf77b67, uf77b68, uf77r69, uf77b70, uf77b71, uf77r72, uf77b73]
      refine call_r (s94 true) ?_
      cases k0 <;> cases k1
      all_goals
        simp only [encCV, encCell, yes, i0, i1, cell_at q0, cell_at q1, e0, e1, q_wpLs_eq_1, q_wpLs_eq_2, q_wpLQs_eq_1, q_wpLQs_eq_2, q_wpL_eq_1, q_wpLQ_eq_1, q_putDL_eq_1, q_AOp_dst_eq_1, q_AOp_dst_eq_8, q_AOp_dst_eq_12, q_AOp_dst_eq_14, q_AOp_dst_eq_20, q_AOp_dst_eq_22, q_exL_eq_1, q_exL_eq_3, q_exL_eq_4, q_exL_eq_6, q_exL_eq_8, q_exL_eq_9, q_exL_eq_11, q_exL_eq_15, q_exL_eq_21, q_exL_eq_23, q_exL_eq_28, q_exLQ_eq_1, q_exLQ_eq_3, q_exLQ_eq_9, q_exLQ_eq_14, q_exLQ_eq_22, q_exLQ_eq_24, q_look_eq_1, q_look_eq_2, q_insT_eq_1, q_insO_eq_1, q_awl_eq_1, q_awl_eq_2, q_awl_eq_3, q_awl_eq_5, q_awl_eq_6, q_awl_eq_7, q_awl_eq_10, q_AE_thenL_eq_1, q_AE_thenL_eq_3, q_AE_inBlockL_eq_1, q_AE_inBlockL_eq_3, q_putK_eq_1, q_vBin_eq_1, q_resV_eq_1, q_binV_eq_1, q_binInt_eq_3, q_cutInt_eq_6, q_vEqAgg_eq_1, q_mapV_eq_1, q_eqRow_eq_1, q_eqRow_eq_2, q_eqC_eq_1, q_eqC_eq_2, q_vUn_eq_1, q_unV_eq_2, q_mapC_eq_1, q_vFaddr_eq_3, q_partV_eq_1, q_partV_eq_2, q_loadO_eq_1, q_isV_eq_1, q_vLoad_eq_1, q_vLoad_eq_2, q_vPick_eq_1, q_vPick_eq_2, q_vBuild_eq_1, q_rowV_eq_1, q_ofRow_eq_2, q_pureRow_eq_1, q_pureRow_eq_2, q_V_cells_eq_2, q_splice_eq_1, q_stVarK_eq_1, q_storeK_eq_1, q_mapT_eq_1, q_mapT_eq_2, q_mapO_eq_1, q_mapO_eq_2, q_freeB_eq_1, q_freeT_eq_1, q_freeT_eq_2, q_freeO_eq_1, q_freeO_eq_2, q_V_noRef_eq_1, q_V_noRef_eq_2, q_K_noRef_eq_1, q_K_noRef_eq_3, q_O_noRef_eq_1, q_endK_eq_2, q_endL_eq_1, q_endV_eq_1, q_resL_eq_1, q_resL_eq_2, q_resX_eq_2, q_resCell_eq_1, q_one_eq_1, q_V_nrm_eq_1, q_V_nrm_eq_2, q_V_nrm_eq_5, q_K_nrm_eq_1, q_K_nrm_eq_2, q_K_nrm_eq_3, q_O_nrm_eq_1, q_V_owns_eq_4, q_V_toNew_eq_2, q_C_norm_eq_4, q_C_norm_eq_5, q_C_normRow_eq_1, q_C_normRow_eq_2, q_regN_eq_2, q_V_reg_eq_4, q_freesL_eq_1, q_addsL_eq_1, q_regK_eq_1, q_retK_eq_2, q_Bool_not_true, q_Bool_not_false, q_Option_map_some, q_List_map_cons, q_List_map_nil, q_List_take_succ_cons, q_List_take_zero, q_List_drop_succ_cons, q_List_drop_zero, q_List_nil_append, q_List_length_cons, q_List_length_nil, q_List_getD_cons_zero, q_List_getD_cons_succ, q_List_all_cons, q_List_all_nil, true_and, if_true, if_false, Bool.false_eq_true, and_self, bne_iff_ne, ne_eq, Bool.and_true, Bool.true_and, Bool.or_true, Bool.false_or, BEq.rfl, List.append_nil, List.nodup_nil, Nat.reduceAdd, Nat.reduceMul, Nat.reduceEqDiff, Nat.reduceLeDiff, Nat.reduceLT, Nat.reduceBEq, Nat.zero_add, Nat.add_zero, Int.toNat_zero, Nat.le_refl, q_learn_eq_1, not_false_eq_true, q_guardP_eq_2, q_condK_eq_1, q_condB_eq_1, q_condB_eq_2, q_exK_eq_1, q_exKQ_eq_1, condB_beq, r_vIaddr_lst, norm_lst, normRows_Ce, List.length_map, lookT_here, lookT_next, Int.reduceLE, Int.reduceToNat, Int.reduceBEq, lookO_here, lookO_next, Option.bind_some, b_ft, Bool.false_and, uf77r3, uf77b4, uf77b15, uf77r16, uf77b17, uf77r18, uf77b19, uf77b20, uf77b21, uf77r22, uf77b23, uf77b24, uf77r25, uf77b26, uf77r27, uf77b28, uf77b29, uf77r30, uf77b31, uf77b32, uf77r41, uf77b42, uf77b43, uf77r44, uf77b45]
        repeat' (first | with_reducible refine And.intro ?_ ?_ | with_reducible intro _)
      all_goals first | (exact fin_cell hS' (by simp_all [logic])) | (refine call_r (s94 false) ?_; simp only [encCV, encCell, yes, q_wpLs_eq_1, q_wpLs_eq_2, q_wpL_eq_1, q_exL_eq_9, q_look_eq_1, q_insT_eq_1, q_insO_eq_1, q_awl_eq_10, q_AE_thenL_eq_3, q_AE_inBlockL_eq_3, q_ofRow_eq_2, q_pureRow_eq_1, q_pureRow_eq_2, q_V_cells_eq_2, q_splice_eq_1, q_stVarK_eq_1, q_storeK_eq_1, q_mapT_eq_1, q_mapT_eq_2, q_mapO_eq_1, q_mapO_eq_2, q_endK_eq_2, q_endL_eq_1, q_endV_eq_1, q_resL_eq_1, q_resL_eq_2, q_resX_eq_2, q_resCell_eq_1, q_one_eq_1, q_V_nrm_eq_1, q_V_nrm_eq_2, q_K_nrm_eq_1, q_K_nrm_eq_2, q_K_nrm_eq_3, q_O_nrm_eq_1, q_V_owns_eq_4, q_V_toNew_eq_2, q_C_norm_eq_4, q_C_norm_eq_5, q_C_normRow_eq_1, q_C_normRow_eq_2, q_regN_eq_2, q_V_reg_eq_4, q_freesL_eq_1, q_addsL_eq_1, q_regK_eq_1, q_retK_eq_2, q_Option_map_some, q_List_map_cons, q_List_map_nil, q_List_take_succ_cons, q_List_take_zero, q_List_drop_succ_cons, q_List_drop_zero, q_List_nil_append, q_List_length_cons, q_List_length_nil, true_and, if_true, if_false, Bool.false_eq_true, and_self, List.append_nil, List.nodup_nil, Nat.reduceAdd, Nat.reduceMul, Nat.reduceLT, Nat.reduceBEq, Nat.zero_add, Nat.le_refl, norm_lst, normRows_Ce, lookT_here, lookT_next, lookO_here, lookO_next]; exact fin_cell hS' (by simp_all [logic]))
  simp only [not_or] at c45
  have hev : evalN op l = if k0 = false ∨ k1 = false then ⟨false, 0⟩ else number op n0 n1 := by
    simp only [evalN, g0, g1, if_neg c3, if_neg c6, if_neg c45.1, if_neg c45.2]
  rw [hev] at hS
  cases k0 <;> cases k1
  all_goals simp only [i0, i1, cell_at q0, cell_at q1, e0, e1, c3, c6, c45.1, c45.2, q_wpLs_eq_1, q_wpLs_eq_2, q_wpLQs_eq_1, q_wpLQs_eq_2, q_wpL_eq_1, q_wpLQ_eq_1, q_putDL_eq_1, q_AOp_dst_eq_1, q_AOp_dst_eq_8, q_AOp_dst_eq_12, q_AOp_dst_eq_14, q_AOp_dst_eq_20, q_AOp_dst_eq_22, q_exL_eq_1, q_exL_eq_3, q_exL_eq_4, q_exL_eq_6, q_exL_eq_8, q_exL_eq_9, q_exL_eq_11, q_exL_eq_15, q_exL_eq_21, q_exL_eq_23, q_exL_eq_28, q_exLQ_eq_1, q_exLQ_eq_3, q_exLQ_eq_9, q_exLQ_eq_14, q_exLQ_eq_22, q_exLQ_eq_24, q_look_eq_1, q_look_eq_2, q_insT_eq_1, q_insO_eq_1, q_awl_eq_1, q_awl_eq_2, q_awl_eq_3, q_awl_eq_5, q_awl_eq_6, q_awl_eq_7, q_awl_eq_10, q_AE_thenL_eq_1, q_AE_thenL_eq_3, q_AE_inBlockL_eq_1, q_AE_inBlockL_eq_3, q_initT_eq_1, q_initT_eq_2, q_putK_eq_1, q_vBin_eq_1, q_resV_eq_1, q_binV_eq_1, q_binInt_eq_3, q_cutInt_eq_6, q_cutInt_eq_8, q_vEqAgg_eq_1, q_vUn_eq_1, q_unV_eq_2, q_mapC_eq_1, q_vFaddr_eq_3, q_partV_eq_1, q_partV_eq_2, q_vLoad_eq_2, q_vPick_eq_1, q_vPick_eq_2, q_vPick_eq_3, q_vBuild_eq_1, q_rowV_eq_1, q_ofRow_eq_2, q_pureRow_eq_1, q_pureRow_eq_2, q_V_cells_eq_2, q_splice_eq_1, q_stVarK_eq_1, q_storeK_eq_1, q_mapT_eq_1, q_mapT_eq_2, q_mapO_eq_1, q_mapO_eq_2, q_freeB_eq_1, q_freeT_eq_1, q_freeT_eq_2, q_freeO_eq_1, q_V_noRef_eq_1, q_K_noRef_eq_1, q_endK_eq_2, q_endL_eq_1, q_endV_eq_1, q_resL_eq_1, q_resL_eq_2, q_resX_eq_2, q_resCell_eq_1, q_one_eq_1, q_V_nrm_eq_1, q_V_nrm_eq_2, q_V_nrm_eq_5, q_K_nrm_eq_1, q_K_nrm_eq_2, q_K_nrm_eq_3, q_O_nrm_eq_1, q_V_owns_eq_4, q_V_toNew_eq_2, q_C_norm_eq_4, q_C_norm_eq_5, q_C_normRow_eq_1, q_C_normRow_eq_2, q_Bool_not_true, q_Bool_not_false, q_Option_map_some, q_List_map_cons, q_List_map_nil, q_List_take_succ_cons, q_List_take_zero, q_List_drop_succ_cons, q_List_drop_zero, q_List_nil_append, q_List_length_cons, q_List_length_nil, q_List_getD_cons_zero, q_List_getD_cons_succ, true_and, if_true, if_false, Bool.false_eq_true, false_implies, forall_const, and_self, Bool.and_true, Bool.or_true, List.append_nil, List.nodup_nil, Nat.reduceAdd, Nat.reduceLeDiff, Nat.reduceLT, Nat.reduceBEq, Nat.zero_add, Nat.add_zero, Int.toNat_zero, Nat.le_refl, q_learn_eq_1, not_false_eq_true, q_guardP_eq_1, q_guardP_eq_2, q_condK_eq_1, q_condB_eq_1, q_condB_eq_2, q_exK_eq_1, q_exKQ_eq_1, condB_beq, r_vIaddr_lst, norm_lst, normRows_Ce, List.length_map, lookT_here, lookT_next, Int.reduceLE, Int.reduceToNat, lookO_here, uf77, uf77r1, uf77b2, uf77r3, uf77b4, uf77r5, uf77b6, uf77r7, uf77b8, uf77b9, uf77r10, uf77b11, uf77b12, uf77r13, uf77b14, uf77b15, uf77r16, uf77b17, uf77r18, uf77b19, uf77b20, uf77b21, uf77r22, uf77b23, uf77b24, uf77r25, uf77b26, uf77r27, uf77b28, uf77b29, uf77r30, uf77b31, uf77b32, uf77r33, uf77b34, uf77r35, uf77b36, uf77b37, uf77r38, uf77b39, uf77b40, uf77r46, uf77b47, uf77r48, uf77b49, uf77b52, uf77r53, uf77b54, uf77b55, uf77b56, uf77r57, uf77b58, uf77b59, uf77r60, uf77b61, uf77r62, uf77b63, uf77b64, uf77b65, uf77r66, uf77b67, uf77b68, uf77r69, uf77b70, uf77b71, uf77r72, uf77b73]
  · exact fin_cell hS (by simp)
  · exact fin_cell hS (by simp)
  · exact fin_cell hS (by simp)
  rw [if_neg (by simp)] at hS
  refine ⟨fun h7 => ?_, fun h7 => ⟨fun h8 => ?_, fun h8 => ?_⟩⟩
  · refine call_r (s94 (decide (n0 < n1))) ?_
    simp only [encCV, encCell, q_wpLs_eq_1, q_wpLs_eq_2, q_wpL_eq_1, q_exL_eq_9, q_look_eq_1, q_insT_eq_1, q_insO_eq_1, q_awl_eq_10, q_AE_thenL_eq_3, q_AE_inBlockL_eq_3, q_ofRow_eq_2, q_pureRow_eq_1, q_pureRow_eq_2, q_V_cells_eq_2, q_splice_eq_1, q_stVarK_eq_1, q_storeK_eq_1, q_mapT_eq_1, q_mapT_eq_2, q_mapO_eq_1, q_mapO_eq_2, q_endK_eq_2, q_endL_eq_1, q_endV_eq_1, q_resL_eq_1, q_resL_eq_2, q_resX_eq_2, q_resCell_eq_1, q_one_eq_1, q_V_nrm_eq_1, q_V_nrm_eq_2, q_K_nrm_eq_1, q_K_nrm_eq_2, q_K_nrm_eq_3, q_O_nrm_eq_1, q_V_owns_eq_4, q_V_toNew_eq_2, q_C_norm_eq_4, q_C_norm_eq_5, q_C_normRow_eq_1, q_C_normRow_eq_2, q_regN_eq_2, q_V_reg_eq_4, q_freesL_eq_1, q_addsL_eq_1, q_regK_eq_1, q_retK_eq_2, q_Option_map_some, q_List_map_cons, q_List_map_nil, q_List_take_succ_cons, q_List_take_zero, q_List_drop_succ_cons, q_List_drop_zero, q_List_nil_append, q_List_length_cons, q_List_length_nil, true_and, if_true, and_self, List.append_nil, List.nodup_nil, Nat.reduceAdd, Nat.reduceMul, Nat.reduceLT, Nat.reduceBEq, Nat.zero_add, Nat.le_refl, norm_lst, normRows_Ce, lookT_here, lookT_next, lookO_here]
    exact fin hS (encCV_eq (a := yes (decide (n0 < n1))) (by simp [number, h7]))
  · refine call_r (s94 (n0 == n1)) ?_
    simp only [encCV, encCell, q_wpLs_eq_1, q_wpLs_eq_2, q_wpL_eq_1, q_exL_eq_9, q_look_eq_1, q_insT_eq_1, q_insO_eq_1, q_awl_eq_10, q_AE_thenL_eq_3, q_AE_inBlockL_eq_3, q_ofRow_eq_2, q_pureRow_eq_1, q_pureRow_eq_2, q_V_cells_eq_2, q_splice_eq_1, q_stVarK_eq_1, q_storeK_eq_1, q_mapT_eq_1, q_mapT_eq_2, q_mapO_eq_1, q_mapO_eq_2, q_endK_eq_2, q_endL_eq_1, q_endV_eq_1, q_resL_eq_1, q_resL_eq_2, q_resX_eq_2, q_resCell_eq_1, q_one_eq_1, q_V_nrm_eq_1, q_V_nrm_eq_2, q_K_nrm_eq_1, q_K_nrm_eq_2, q_K_nrm_eq_3, q_O_nrm_eq_1, q_V_owns_eq_4, q_V_toNew_eq_2, q_C_norm_eq_4, q_C_norm_eq_5, q_C_normRow_eq_1, q_C_normRow_eq_2, q_regN_eq_2, q_V_reg_eq_4, q_freesL_eq_1, q_addsL_eq_1, q_regK_eq_1, q_retK_eq_2, q_Option_map_some, q_List_map_cons, q_List_map_nil, q_List_take_succ_cons, q_List_take_zero, q_List_drop_succ_cons, q_List_drop_zero, q_List_nil_append, q_List_length_cons, q_List_length_nil, true_and, if_true, and_self, List.append_nil, List.nodup_nil, Nat.reduceAdd, Nat.reduceMul, Nat.reduceLT, Nat.reduceBEq, Nat.zero_add, Nat.le_refl, norm_lst, normRows_Ce, lookT_here, lookT_next, lookO_here]
    have e : (n0 == n1) = decide (n0 = n1) := by by_cases h : n0 = n1 <;> simp [h]
    exact fin hS (encCV_eq (a := yes (n0 == n1)) (by simp [number, h8, e]))
  · refine call_s (s95 op n0 n1 b0 b1) ?_
    simp only [q_wpLs_eq_1, q_wpLs_eq_2, q_wpL_eq_1, q_exL_eq_6, q_exL_eq_9, q_look_eq_1, q_look_eq_2, q_insT_eq_1, q_insO_eq_1, q_awl_eq_10, q_putK_eq_1, q_vBuild_eq_1, q_vBuild_eq_2, q_rowV_eq_1, q_ofRow_eq_2, q_pureRow_eq_1, q_pureRow_eq_2, q_V_cells_eq_1, q_V_cells_eq_2, q_splice_eq_1, q_stVarK_eq_1, q_storeK_eq_1, q_mapT_eq_1, q_mapT_eq_2, q_mapO_eq_1, q_mapO_eq_2, q_endK_eq_2, q_endL_eq_1, q_endV_eq_1, q_resL_eq_1, q_resL_eq_2, q_resX_eq_2, q_resCell_eq_1, q_one_eq_1, q_V_nrm_eq_1, q_V_nrm_eq_2, q_K_nrm_eq_1, q_K_nrm_eq_2, q_K_nrm_eq_3, q_O_nrm_eq_1, q_V_owns_eq_4, q_V_toNew_eq_2, q_C_norm_eq_4, q_C_norm_eq_5, q_C_normRow_eq_1, q_C_normRow_eq_2, q_Option_map_some, q_List_map_cons, q_List_map_nil, q_List_take_succ_cons, q_List_take_zero, q_List_drop_succ_cons, q_List_drop_zero, q_List_nil_append, q_List_cons_append, q_List_length_cons, q_List_length_nil, true_and, if_true, and_self, List.append_nil, List.nodup_nil, Nat.reduceAdd, Nat.reduceLeDiff, Nat.reduceLT, Nat.reduceBEq, Nat.zero_add, Nat.le_refl, norm_lst, normRows_Ce, lookT_here, lookT_next, lookO_here]
    refine fin_cell hS ?_
    simp only [number, arith, if_neg h7, if_neg h8]
    (repeat' split) <;> rfl
end Go.Abs


set_option maxRecDepth 100000
namespace Go.Proofs
open Go.Shelf
def Try.laysSort_ren : Go.Shelf.Ren :=
  {
    f := fun x =>
      match x with
      | 189 => 49
      | 125 => 69
      | 257 => 68
      | 128 => 91
      | 129 => 92
      | 294 => 82
      | 295 => 83
      | 296 => 84
      | 297 => 85
      | 298 => 86
      | 299 => 87
      | 216 => 88
      | 300 => 89
      | 301 => 90
      | 328 => 100
      | 329 => 101
      | 330 => 102
      | 331 => 103
      | 332 => 104
      | 215 => 105
      | 343 => 107
      | n => n,
    t := fun x =>
      match x with
      | 28 => 36
      | 3 => 3
      | 46 => 89
      | 0 => 0
      | 51 => 110
      | 53 => 112
      | 4 => 4
      | 183 => 104
      | 182 => 103
      | 131 => 28
      | 5 => 5
      | 9 => 9
      | 218 => 117
      | 222 => 121
      | 228 => 123
      | 229 => 124
      | n => n,
    g := fun n => n }
theorem Try.laysSort : Lays.n189 Try.prog Try.laysSort_ren :=
  { mixed := Eq.refl true, f125 := Eq.trans Try.func69 (congrArg some (Eq.refl (Body.n125 Try.laysSort_ren))),
    f128 := Eq.trans Try.func91 (congrArg some (Eq.refl (Body.n128 Try.laysSort_ren))),
    f129 := Eq.trans Try.func92 (congrArg some (Eq.refl (Body.n129 Try.laysSort_ren))),
    f189 := Eq.trans Try.func49 (congrArg some (Eq.refl (Body.n189 Try.laysSort_ren))),
    f215 := Eq.trans Try.func105 (congrArg some (Eq.refl (Body.n215 Try.laysSort_ren))),
    f216 := Eq.trans Try.func88 (congrArg some (Eq.refl (Body.n216 Try.laysSort_ren))),
    f257 := Eq.trans Try.func68 (congrArg some (Eq.refl (Body.n257 Try.laysSort_ren))),
    f294 := Eq.trans Try.func82 (congrArg some (Eq.refl (Body.n294 Try.laysSort_ren))),
    f295 := Eq.trans Try.func83 (congrArg some (Eq.refl (Body.n295 Try.laysSort_ren))),
    f296 := Eq.trans Try.func84 (congrArg some (Eq.refl (Body.n296 Try.laysSort_ren))),
    f297 := Eq.trans Try.func85 (congrArg some (Eq.refl (Body.n297 Try.laysSort_ren))),
    f298 := Eq.trans Try.func86 (congrArg some (Eq.refl (Body.n298 Try.laysSort_ren))),
    f299 := Eq.trans Try.func87 (congrArg some (Eq.refl (Body.n299 Try.laysSort_ren))),
    f300 := Eq.trans Try.func89 (congrArg some (Eq.refl (Body.n300 Try.laysSort_ren))),
    f301 := Eq.trans Try.func90 (congrArg some (Eq.refl (Body.n301 Try.laysSort_ren))),
    f328 := Eq.trans Try.func100 (congrArg some (Eq.refl (Body.n328 Try.laysSort_ren))),
    f329 := Eq.trans Try.func101 (congrArg some (Eq.refl (Body.n329 Try.laysSort_ren))),
    f330 := Eq.trans Try.func102 (congrArg some (Eq.refl (Body.n330 Try.laysSort_ren))),
    f331 := Eq.trans Try.func103 (congrArg some (Eq.refl (Body.n331 Try.laysSort_ren))),
    f332 := Eq.trans Try.func104 (congrArg some (Eq.refl (Body.n332 Try.laysSort_ren))),
    f343 := Eq.trans Try.func107 (congrArg some (Eq.refl (Body.n343 Try.laysSort_ren))), t0 := Try.underlying0,
    a0 := Try.isAgg0, z0 := Try.sizeOf0, v0 := Try.zeroValue0, t3 := Try.underlying3, a3 := Try.isAgg3, z3 := Try.sizeOf3,
    v3 := Try.zeroValue3, t4 := Try.underlying4, a4 := Try.isAgg4, z4 := Try.sizeOf4, v4 := Try.zeroValue4,
    t5 := Try.underlying5, a5 := Try.isAgg5, z5 := Try.sizeOf5, v5 := Try.zeroValue5, t9 := Try.underlying9,
    a9 := Try.isAgg9, z9 := Try.sizeOf9, v9 := Try.zeroValue9, t28 := Try.underlying36, a28 := Try.isAgg36,
    z28 := Try.sizeOf36, v28 := Try.zeroValue36, t46 := Try.underlying89, a46 := Try.isAgg89, z46 := Try.sizeOf89,
    v46 := Try.zeroValue89, t51 := Try.underlying110, a51 := Try.isAgg110, z51 := Try.sizeOf110, v51 := Try.zeroValue110,
    t53 := Try.underlying112, a53 := Try.isAgg112, z53 := Try.sizeOf112, v53 := Try.zeroValue112,
    t131 := Try.underlying28, a131 := Try.isAgg28, z131 := Try.sizeOf28, v131 := Try.zeroValue28,
    t182 := Try.underlying103, a182 := Try.isAgg103, z182 := Try.sizeOf103, v182 := Try.zeroValue103,
    t183 := Try.underlying104, a183 := Try.isAgg104, z183 := Try.sizeOf104, v183 := Try.zeroValue104,
    t218 := Try.underlying117, a218 := Try.isAgg117, z218 := Try.sizeOf117, v218 := Try.zeroValue117,
    t222 := Try.underlying121, a222 := Try.isAgg121, z222 := Try.sizeOf121, v222 := Try.zeroValue121,
    t228 := Try.underlying123, a228 := Try.isAgg123, z228 := Try.sizeOf123, v228 := Try.zeroValue123,
    t229 := Try.underlying124, a229 := Try.isAgg124, z229 := Try.sizeOf124, v229 := Try.zeroValue124 }
def Try.laysCompact_ren : Go.Shelf.Ren :=
  {
    f := fun x =>
      match x with
      | 20 => 50
      | n => n,
    t := fun x =>
      match x with
      | 22 => 36
      | 3 => 3
      | 4 => 4
      | 0 => 0
      | n => n,
    g := fun n => n }
theorem Try.laysCompact : Lays2.n20 Try.prog Try.laysCompact_ren :=
  { mixed := Eq.refl true, f20 := Eq.trans Try.func50 (congrArg some (Eq.refl (Body2.n20 Try.laysCompact_ren))),
    t0 := Try.underlying0, a0 := Try.isAgg0, z0 := Try.sizeOf0, v0 := Try.zeroValue0, t3 := Try.underlying3,
    a3 := Try.isAgg3, z3 := Try.sizeOf3, v3 := Try.zeroValue3, t4 := Try.underlying4, a4 := Try.isAgg4, z4 := Try.sizeOf4,
    v4 := Try.zeroValue4, t22 := Try.underlying36, a22 := Try.isAgg36, z22 := Try.sizeOf36, v22 := Try.zeroValue36,
    i3 := Eq.refl (some (some (Go.Value.int Go.IntKind.i64 0), 1, 8)) }
end Go.Proofs
set_option maxRecDepth 100000
namespace Go.Abs
open Go.Proofs
theorem callable_at {P : Program} {f : FuncId} (h : (match P.funcs[f]? with | some fn => fn.body.isSome && !(fn.name == "runtime.NumGoroutine") | none => false) = true) : Callable P f := by
  cases hf : P.funcs[f]? with
  | none => rw [hf] at h; cases h
  | some fn =>
    rw [hf] at h
    simp only [Bool.and_eq_true, Bool.not_eq_true'] at h
    exact ⟨fn, hf, h.1, h.2⟩
theorem s49 {e : TypeId} {τ : Nat} {l : List Int} (hl : l.length < 4611686018427387904) : SpecS Try.prog 49 [.k (.own τ)] (oneI e τ l) [τ] (fun r o' => r = .tup [] ∧ o' = oneI e τ (sortI l)) :=
  sort_spec Try.laysSort (callable_at (by kernel_rfl)) hl
theorem s50 {e : TypeId} {τ : Nat} {l : List Int} : SpecS Try.prog 50 [.k (.own τ)] (oneI e τ l) [] (fun r o' => r = .k (.own τ) ∧ o' = oneI e τ (Lib.compact l)) :=
  compact_spec Try.laysCompact (callable_at (by kernel_rfl))
end Go.Abs


set_option maxRecDepth 100000
namespace Go.Proofs
open Go.Shelf
def Try.laysGrow_ren : Go.Shelf.Ren :=
  { f := fun x =>
      match x with
      | 4 => 96
      | n => n,
    t := fun x =>
      match x with
      | 22 => 36
      | 25 => 3
      | 3 => 3
      | 4 => 4
      | 9 => 9
      | 20 => 20
      | 0 => 0
      | n => n,
    g := fun n => n }
theorem Try.laysGrow : Lays8.n4 Try.prog Try.laysGrow_ren :=
  { mixed := Eq.refl true,
    f4 := Exists.intro "slices.Grow[[]int,int]" ⟨of_decide_eq_true (id (Eq.refl true)),
      Eq.trans Try.func96 (congrArg some (Eq.refl { Body8.n4 Try.laysGrow_ren with name := "slices.Grow[[]int,int]" }))⟩,
    t0 := Try.underlying0, a0 := Try.isAgg0, z0 := Try.sizeOf0, v0 := Try.zeroValue0, t3 := Try.underlying3, a3 := Try.isAgg3, z3 := Try.sizeOf3, v3 := Try.zeroValue3,
    t4 := Try.underlying4, a4 := Try.isAgg4, z4 := Try.sizeOf4, v4 := Try.zeroValue4, t9 := Try.underlying9, a9 := Try.isAgg9, z9 := Try.sizeOf9, v9 := Try.zeroValue9,
    t20 := Try.underlying20, a20 := Try.isAgg20, z20 := Try.sizeOf20, v20 := Try.zeroValue20, t22 := Try.underlying36, a22 := Try.isAgg36, z22 := Try.sizeOf36, v22 := Try.zeroValue36 }
end Go.Proofs
namespace Go.Abs
open Go.Proofs
theorem s96 {n : Nat} (h : n ≤ 1000000) : Spec Try.prog 96 [.k (.c (.list 0 (some true) [])), .int .i64 n] (fun r => r = .k (.newl 3 1 none [])) :=
  grow_spec (i0 := (Try.prog.info? 3).getD default) (z := .int .i64 0) Try.laysGrow (callable_at (by kernel_rfl)) (by kernel_rfl) (by kernel_rfl) (by kernel_rfl) rfl (by
    have : ((Try.prog.info? (Try.laysGrow_ren.t 25)).getD default).bytes = 8 := by kernel_rfl
    show n * ((Try.prog.info? (Try.laysGrow_ren.t 25)).getD default).bytes ≤ _
    rw [this]; omega) (by omega)
end Go.Abs

