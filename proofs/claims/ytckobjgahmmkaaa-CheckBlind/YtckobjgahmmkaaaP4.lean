/- CheckBlind: for every order and every list of numbers the law returns true, and its arguments read as they did; no condition. -/
import Derived.Test.YtckobjgahmmkaaaP3
import Derived.Test.YtckobjgahmmkaaaProg
import Derived.IntWalk
set_option linter.unusedVariables false
set_option linter.unusedSimpArgs false
set_option maxRecDepth 100000
namespace Go.Abs
open Go.Proofs
def f14r1 : List AI := [⟨none, (.mov 126 (.t 13))⟩, ⟨none, (.mov 127 (.t 126))⟩, ⟨(some (127, true)), (.mov 128 (.t 14))⟩, ⟨none, (.pick 129 (.t 127) (.t 128) (.v (.k (.c (.bool false)))))⟩, ⟨none, (.mov 130 (.t 129))⟩, ⟨(some (130, true)), (.mov 131 (.t 15))⟩, ⟨none, (.pick 132 (.t 130) (.t 131) (.v (.k (.c (.bool false)))))⟩, ⟨none, (.mov 0 (.t 132))⟩]
theorem uf14r1 : type_of% @f14r1.eq_1 := id @f14r1.eq_1
def f14b2 : AQ := (.seq (.region f14r1) .ret)
theorem uf14b2 (P ts os Q) : awl P f14b2 Q ts os = awl P (.seq (.region f14r1) .ret) Q ts os := id rfl
def f14r3 : List AI := [⟨none, (.load 104 4 true (.t 4))⟩, ⟨none, (.call (some 105) 23 [(.t 104)])⟩, ⟨none, (.len 106 (.t 105))⟩, ⟨none, (.bin 107 .eql (.t 106) (.v (.k (.c (.int .i64 20)))))⟩, ⟨none, (.mov 108 (.t 107))⟩, ⟨(some (108, true)), (.load 109 4 true (.t 5))⟩, ⟨(some (108, true)), (.call (some 110) 23 [(.t 109)])⟩, ⟨(some (108, true)), (.len 111 (.t 110))⟩, ⟨(some (108, true)), (.bin 112 .eql (.t 111) (.v (.k (.c (.int .i64 21)))))⟩, ⟨none, (.pick 113 (.t 108) (.t 112) (.v (.k (.c (.bool false)))))⟩, ⟨none, (.mov 114 (.t 113))⟩, ⟨(some (114, true)), (.load 115 4 true (.t 4))⟩, ⟨(some (114, true)), (.call (some 116) 27 [(.t 115)])⟩, ⟨(some (114, true)), (.len 117 (.t 116))⟩, ⟨(some (114, true)), (.bin 118 .eql (.t 117) (.v (.k (.c (.int .i64 0)))))⟩, ⟨none, (.pick 119 (.t 114) (.t 118) (.v (.k (.c (.bool false)))))⟩, ⟨none, (.mov 120 (.t 119))⟩, ⟨(some (120, true)), (.load 121 4 true (.t 5))⟩, ⟨(some (120, true)), (.call (some 122) 27 [(.t 121)])⟩, ⟨(some (120, true)), (.bslice 123 3 1 [(.int .i64 0)] 1 [(0, (.v (.k (.c (.int .i64 0)))))])⟩, ⟨(some (120, true)), (.call (some 124) 22 [(.t 122), (.t 123)])⟩, ⟨none, (.pick 125 (.t 120) (.t 124) (.v (.k (.c (.bool false)))))⟩, ⟨none, (.mov 15 (.t 125))⟩]
theorem uf14r3 : type_of% @f14r3.eq_1 := id @f14r3.eq_1
def f14b4 : AQ := (.seq (.region f14r3) f14b2)
theorem uf14b4 (P ts os Q) : awl P f14b4 Q ts os = awl P (.seq (.region f14r3) f14b2) Q ts os := id rfl
def f14r5 : List AI := [⟨none, (.load 88 4 true (.t 4))⟩, ⟨none, (.call (some 89) 25 [(.t 88)])⟩, ⟨none, (.bslice 90 3 1 [(.int .i64 0)] 1 [(0, (.v (.k (.c (.int .i64 7)))))])⟩, ⟨none, (.call (some 91) 22 [(.t 89), (.t 90)])⟩, ⟨none, (.mov 92 (.t 91))⟩, ⟨(some (92, true)), (.load 93 4 true (.t 5))⟩, ⟨(some (92, true)), (.call (some 94) 25 [(.t 93)])⟩, ⟨(some (92, true)), (.bslice 95 3 1 [(.int .i64 0)] 1 [(0, (.v (.k (.c (.int .i64 15)))))])⟩, ⟨(some (92, true)), (.call (some 96) 22 [(.t 94), (.t 95)])⟩, ⟨none, (.pick 97 (.t 92) (.t 96) (.v (.k (.c (.bool false)))))⟩, ⟨none, (.mov 98 (.t 97))⟩, ⟨(some (98, true)), (.load 99 4 true (.t 6))⟩, ⟨(some (98, true)), (.call (some 100) 25 [(.t 99)])⟩, ⟨(some (98, true)), (.len 101 (.t 100))⟩, ⟨(some (98, true)), (.bin 102 .eql (.t 101) (.v (.k (.c (.int .i64 0)))))⟩, ⟨none, (.pick 103 (.t 98) (.t 102) (.v (.k (.c (.bool false)))))⟩, ⟨none, (.mov 14 (.t 103))⟩]
theorem uf14r5 : type_of% @f14r5.eq_1 := id @f14r5.eq_1
def f14b6 : AQ := (.seq (.region f14r5) f14b4)
theorem uf14b6 (P ts os Q) : awl P f14b6 Q ts os = awl P (.seq (.region f14r5) f14b4) Q ts os := id rfl
def f14r7 : List AI := [⟨none, (.load 52 4 true (.t 4))⟩, ⟨none, (.call (some 53) 20 [(.t 52)])⟩, ⟨none, (.bin 54 .eql (.t 53) (.v (.k (.c (.int .i64 0)))))⟩, ⟨none, (.mov 55 (.t 54))⟩, ⟨(some (55, true)), (.load 56 4 true (.t 5))⟩, ⟨(some (55, true)), (.call (some 57) 20 [(.t 56)])⟩, ⟨(some (55, true)), (.bin 58 .eql (.t 57) (.v (.k (.c (.int .i64 0)))))⟩, ⟨none, (.pick 59 (.t 55) (.t 58) (.v (.k (.c (.bool false)))))⟩, ⟨none, (.mov 60 (.t 59))⟩, ⟨(some (60, true)), (.load 61 4 true (.t 6))⟩, ⟨(some (60, true)), (.call (some 62) 20 [(.t 61)])⟩, ⟨(some (60, true)), (.bin 63 .eql (.t 62) (.v (.k (.c (.int .i64 11)))))⟩, ⟨none, (.pick 64 (.t 60) (.t 63) (.v (.k (.c (.bool false)))))⟩, ⟨none, (.mov 65 (.t 64))⟩, ⟨(some (65, true)), (.mov 66 (.t 7))⟩, ⟨(some (65, true)), (.bin 67 .eql (.t 66) (.v (.k (.c (.int .i64 1)))))⟩, ⟨none, (.pick 68 (.t 65) (.t 67) (.v (.k (.c (.bool false)))))⟩, ⟨none, (.mov 69 (.t 68))⟩, ⟨(some (69, true)), (.mov 70 (.t 8))⟩, ⟨(some (69, true)), (.bin 71 .eql (.t 70) (.v (.k (.c (.int .i64 11)))))⟩, ⟨none, (.pick 72 (.t 69) (.t 71) (.v (.k (.c (.bool false)))))⟩, ⟨none, (.mov 73 (.t 72))⟩, ⟨(some (73, true)), (.mov 74 (.t 9))⟩, ⟨(some (73, true)), (.bin 75 .eql (.t 74) (.v (.k (.c (.int .i64 (-1))))))⟩, ⟨none, (.pick 76 (.t 73) (.t 75) (.v (.k (.c (.bool false)))))⟩, ⟨none, (.mov 77 (.t 76))⟩, ⟨(some (77, true)), (.mov 78 (.t 10))⟩, ⟨(some (77, true)), (.bin 79 .eql (.t 78) (.v (.k (.c (.int .i64 0)))))⟩, ⟨none, (.pick 80 (.t 77) (.t 79) (.v (.k (.c (.bool false)))))⟩, ⟨none, (.mov 81 (.t 80))⟩, ⟨(some (81, true)), (.mov 82 (.t 11))⟩, ⟨(some (81, true)), (.bin 83 .eql (.t 82) (.v (.k (.c (.int .i64 0)))))⟩, ⟨none, (.pick 84 (.t 81) (.t 83) (.v (.k (.c (.bool false)))))⟩, ⟨none, (.mov 85 (.t 84))⟩, ⟨(some (85, true)), (.mov 86 (.t 12))⟩, ⟨none, (.pick 87 (.t 85) (.t 86) (.v (.k (.c (.bool false)))))⟩, ⟨none, (.mov 13 (.t 87))⟩]
theorem uf14r7 : type_of% @f14r7.eq_1 := id @f14r7.eq_1
def f14b8 : AQ := (.seq (.region f14r7) f14b6)
theorem uf14b8 (P ts os Q) : awl P f14b8 Q ts os = awl P (.seq (.region f14r7) f14b6) Q ts os := id rfl
def f14r9 : List AI := [⟨none, (.call (some 49) 16 [(.v (.k (.c (.int .i64 6))))])⟩, ⟨none, (.mov 48 (.t 49))⟩, ⟨none, (.extr 50 (.t 48) 0)⟩, ⟨none, (.extr 51 (.t 48) 1)⟩, ⟨none, (.mov 11 (.t 50))⟩, ⟨none, (.mov 12 (.t 51))⟩]
theorem uf14r9 : type_of% @f14r9.eq_1 := id @f14r9.eq_1
def f14b10 : AQ := (.seq (.region f14r9) f14b8)
theorem uf14b10 (P ts os Q) : awl P f14b10 Q ts os = awl P (.seq (.region f14r9) f14b8) Q ts os := id rfl
def f14r11 : List AI := [⟨none, (.load 42 4 true (.t 4))⟩, ⟨none, (.load 43 4 true (.t 5))⟩, ⟨none, (.bslice 44 25 4 [(.str []), (.bool false), (.list 0 (some true) []), (.list 0 (some true) [])] 2 [(0, (.t 42)), (1, (.t 43))])⟩, ⟨none, (.call (some 45) 18 [(.t 44)])⟩, ⟨none, (.mov 41 (.t 45))⟩, ⟨none, (.extr 46 (.t 41) 0)⟩, ⟨none, (.extr 47 (.t 41) 1)⟩, ⟨none, (.mov 9 (.t 46))⟩, ⟨none, (.mov 10 (.t 47))⟩]
theorem uf14r11 : type_of% @f14r11.eq_1 := id @f14r11.eq_1
def f14b12 : AQ := (.seq (.region f14r11) f14b10)
theorem uf14b12 (P ts os Q) : awl P f14b12 Q ts os = awl P (.seq (.region f14r11) f14b10) Q ts os := id rfl
def f14r13 : List AI := [⟨none, (.load 34 4 true (.t 4))⟩, ⟨none, (.load 35 4 true (.t 6))⟩, ⟨none, (.load 36 4 true (.t 5))⟩, ⟨none, (.bslice 37 25 4 [(.str []), (.bool false), (.list 0 (some true) []), (.list 0 (some true) [])] 3 [(0, (.t 34)), (1, (.t 35)), (2, (.t 36))])⟩, ⟨none, (.call (some 38) 18 [(.t 37)])⟩, ⟨none, (.mov 33 (.t 38))⟩, ⟨none, (.extr 39 (.t 33) 0)⟩, ⟨none, (.extr 40 (.t 33) 1)⟩, ⟨none, (.mov 7 (.t 39))⟩, ⟨none, (.mov 8 (.t 40))⟩]
theorem uf14r13 : type_of% @f14r13.eq_1 := id @f14r13.eq_1
def f14b14 : AQ := (.seq (.region f14r13) f14b12)
theorem uf14b14 (P ts os Q) : awl P f14b14 Q ts os = awl P (.seq (.region f14r13) f14b12) Q ts os := id rfl
def f14r15 : List AI := [⟨none, (.load 29 3 true (.t 3))⟩, ⟨none, (.build 30 [(.int .i64 0), (.int .i64 0), (.int .i64 0), (.list 0 (some true) [])] [(0, (1, (.v (.k (.c (.int .i64 0)))))), (1, (3, (.t 29)))])⟩, ⟨none, (.bslice 31 43 4 [(.int .i64 0), (.int .i64 0), (.int .i64 0), (.list 0 (some true) [])] 1 [(0, (.t 30))])⟩, ⟨none, (.build 32 [(.str []), (.bool false), (.list 0 (some true) []), (.list 0 (some true) [])] [(3, (1, (.t 31)))])⟩, ⟨none, (.alloc 6 25 [(.str []), (.bool false), (.list 0 (some true) []), (.list 0 (some true) [])])⟩, ⟨none, (.store 4 (.t 6) (.t 32))⟩]
theorem uf14r15 : type_of% @f14r15.eq_1 := id @f14r15.eq_1
def f14b16 : AQ := (.seq (.region f14r15) (.frz 31 f14b14))
theorem uf14b16 (P ts os Q) : awl P f14b16 Q ts os = awl P (.seq (.region f14r15) (.frz 31 f14b14)) Q ts os := id rfl
def f14r17 : List AI := [⟨none, (.load 25 3 true (.t 2))⟩, ⟨none, (.build 26 [(.int .i64 0), (.int .i64 0), (.int .i64 0), (.list 0 (some true) [])] [(0, (1, (.v (.k (.c (.int .i64 0)))))), (1, (3, (.t 25)))])⟩, ⟨none, (.bslice 27 43 4 [(.int .i64 0), (.int .i64 0), (.int .i64 0), (.list 0 (some true) [])] 1 [(0, (.t 26))])⟩, ⟨none, (.build 28 [(.str []), (.bool false), (.list 0 (some true) []), (.list 0 (some true) [])] [(3, (1, (.t 27)))])⟩, ⟨none, (.alloc 5 25 [(.str []), (.bool false), (.list 0 (some true) []), (.list 0 (some true) [])])⟩, ⟨none, (.store 4 (.t 5) (.t 28))⟩]
theorem uf14r17 : type_of% @f14r17.eq_1 := id @f14r17.eq_1
def f14b18 : AQ := (.seq (.region f14r17) (.frz 27 f14b16))
theorem uf14b18 (P ts os Q) : awl P f14b18 Q ts os = awl P (.seq (.region f14r17) (.frz 27 f14b16)) Q ts os := id rfl
def f14r19 : List AI := [⟨none, (.load 19 3 true (.t 1))⟩, ⟨none, (.build 20 [(.int .i64 0), (.int .i64 0), (.int .i64 0), (.list 0 (some true) [])] [(0, (1, (.v (.k (.c (.int .i64 0)))))), (1, (3, (.t 19)))])⟩, ⟨none, (.load 21 3 true (.t 3))⟩, ⟨none, (.build 22 [(.int .i64 0), (.int .i64 0), (.int .i64 0), (.list 0 (some true) [])] [(0, (1, (.v (.k (.c (.int .i64 6)))))), (1, (3, (.t 21)))])⟩, ⟨none, (.bslice 23 43 4 [(.int .i64 0), (.int .i64 0), (.int .i64 0), (.list 0 (some true) [])] 2 [(0, (.t 20)), (1, (.t 22))])⟩, ⟨none, (.build 24 [(.str []), (.bool false), (.list 0 (some true) []), (.list 0 (some true) [])] [(3, (1, (.t 23)))])⟩, ⟨none, (.alloc 4 25 [(.str []), (.bool false), (.list 0 (some true) []), (.list 0 (some true) [])])⟩, ⟨none, (.store 4 (.t 4) (.t 24))⟩]
theorem uf14r19 : type_of% @f14r19.eq_1 := id @f14r19.eq_1
def f14b20 : AQ := (.seq (.region f14r19) (.frz 23 f14b18))
theorem uf14b20 (P ts os Q) : awl P f14b20 Q ts os = awl P (.seq (.region f14r19) (.frz 23 f14b18)) Q ts os := id rfl
def f14r21 : List AI := [⟨none, (.build 18 [(.int .i64 0), (.int .i64 0), (.list 0 (some true) [])] [(0, (1, (.v (.k (.c (.int .i64 0)))))), (1, (1, (.v (.k (.c (.int .i64 3))))))])⟩, ⟨none, (.alloc 3 41 [(.int .i64 0), (.int .i64 0), (.list 0 (some true) [])])⟩, ⟨none, (.store 3 (.t 3) (.t 18))⟩]
theorem uf14r21 : type_of% @f14r21.eq_1 := id @f14r21.eq_1
def f14b22 : AQ := (.seq (.region f14r21) f14b20)
theorem uf14b22 (P ts os Q) : awl P f14b22 Q ts os = awl P (.seq (.region f14r21) f14b20) Q ts os := id rfl
def f14r23 : List AI := [⟨none, (.build 17 [(.int .i64 0), (.int .i64 0), (.list 0 (some true) [])] [(0, (1, (.v (.k (.c (.int .i64 2)))))), (1, (1, (.v (.k (.c (.int .i64 15))))))])⟩, ⟨none, (.alloc 2 41 [(.int .i64 0), (.int .i64 0), (.list 0 (some true) [])])⟩, ⟨none, (.store 3 (.t 2) (.t 17))⟩]
theorem uf14r23 : type_of% @f14r23.eq_1 := id @f14r23.eq_1
def f14b24 : AQ := (.seq (.region f14r23) f14b22)
theorem uf14b24 (P ts os Q) : awl P f14b24 Q ts os = awl P (.seq (.region f14r23) f14b22) Q ts os := id rfl
def f14r25 : List AI := [⟨none, (.build 16 [(.int .i64 0), (.int .i64 0), (.list 0 (some true) [])] [(0, (1, (.v (.k (.c (.int .i64 2)))))), (1, (1, (.v (.k (.c (.int .i64 7))))))])⟩, ⟨none, (.alloc 1 41 [(.int .i64 0), (.int .i64 0), (.list 0 (some true) [])])⟩, ⟨none, (.store 3 (.t 1) (.t 16))⟩]
theorem uf14r25 : type_of% @f14r25.eq_1 := id @f14r25.eq_1
def f14b26 : AQ := (.seq (.region f14r25) f14b24)
theorem uf14b26 (P ts os Q) : awl P f14b26 Q ts os = awl P (.seq (.region f14r25) f14b24) Q ts os := id rfl
def f14r27 : List AI := [⟨none, (.mov 0 (.v (.k (.c (.bool false)))))⟩]
theorem uf14r27 : type_of% @f14r27.eq_1 := id @f14r27.eq_1
def f14b28 : AQ := (.seq (.region f14r27) f14b26)
theorem uf14b28 (P ts os Q) : awl P f14b28 Q ts os = awl P (.seq (.region f14r27) f14b26) Q ts os := id rfl
def f14 : AQ := f14b28
theorem uf14 (P ts os Q) : awl P f14 Q ts os = awl P f14b28 Q ts os := id rfl
theorem hf14 : cFunc Try.prog 14 = some ⟨133, f14.erase, [(RX.t 0)]⟩ := by kernel_rfl
theorem okf14 : f14.ok = true := by kernel_rfl
def f15r1 : List AI := [⟨none, (.mov 2 (.v (.k (.c (.bool true)))))⟩]
theorem uf15r1 : type_of% @f15r1.eq_1 := id @f15r1.eq_1
def f15b2 : AQ := (.seq (.region f15r1) .ret)
theorem uf15b2 (P ts os Q) : awl P f15b2 Q ts os = awl P (.seq (.region f15r1) .ret) Q ts os := id rfl
def f15r3 : List AI := [⟨none, (.mov 19 (.t 3))⟩, ⟨none, (.bin 20 .add (.t 19) (.v (.k (.c (.int .i64 1)))))⟩, ⟨none, (.mov 3 (.t 20))⟩]
theorem uf15r3 : type_of% @f15r3.eq_1 := id @f15r3.eq_1
def f15r4 : List AI := [⟨none, (.mov 2 (.v (.k (.c (.bool false)))))⟩]
theorem uf15r4 : type_of% @f15r4.eq_1 := id @f15r4.eq_1
def f15b5 : AQ := (.seq (.region f15r4) .ret)
theorem uf15b5 (P ts os Q) : awl P f15b5 Q ts os = awl P (.seq (.region f15r4) .ret) Q ts os := id rfl
def f15b6 : AQ := (.cond (.t 28) f15b5 .skip)
theorem uf15b6 (P ts os Q) : awl P f15b6 Q ts os = awl P (.cond (.t 28) f15b5 .skip) Q ts os := id rfl
def f15r7 : List AI := [⟨none, (.faddr 21 3 (.t 1))⟩, ⟨none, (.load 22 1 false (.t 21))⟩, ⟨none, (.mov 23 (.t 3))⟩, ⟨none, (.iaddr 24 4 (.t 22) (.t 23))⟩, ⟨none, (.faddr 25 1 (.t 24))⟩, ⟨none, (.load 26 3 true (.t 25))⟩, ⟨none, (.call (some 27) 30 [(.t 26)])⟩, ⟨none, (.un 28 .not (.t 27))⟩]
theorem uf15r7 : type_of% @f15r7.eq_1 := id @f15r7.eq_1
def f15b8 : AQ := (.seq (.region f15r7) f15b6)
theorem uf15b8 (P ts os Q) : awl P f15b8 Q ts os = awl P (.seq (.region f15r7) f15b6) Q ts os := id rfl
def f15b9 : AQ := (.block 1 f15b8)
theorem uf15b9 (P ts os Q) : awl P f15b9 Q ts os = awl P (.block 1 f15b8) Q ts os := id rfl
def f15b10 : AQ := (.seq f15b9 (.region f15r3))
theorem uf15b10 (P ts os Q) : awl P f15b10 Q ts os = awl P (.seq f15b9 (.region f15r3)) Q ts os := id rfl
def f15b11 : AQ := (.cond (.t 18) .skip (.exit 0))
theorem uf15b11 (P ts os Q) : awl P f15b11 Q ts os = awl P (.cond (.t 18) .skip (.exit 0)) Q ts os := id rfl
def f15r12 : List AI := [⟨none, (.mov 14 (.t 3))⟩, ⟨none, (.faddr 15 3 (.t 1))⟩, ⟨none, (.load 16 1 false (.t 15))⟩, ⟨none, (.len 17 (.t 16))⟩, ⟨none, (.bin 18 .lss (.t 14) (.t 17))⟩]
theorem uf15r12 : type_of% @f15r12.eq_1 := id @f15r12.eq_1
def f15b13 : AQ := (.seq (.region f15r12) f15b11)
theorem uf15b13 (P ts os Q) : awl P f15b13 Q ts os = awl P (.seq (.region f15r12) f15b11) Q ts os := id rfl
def f15b14 : AQ := (.seq f15b13 f15b10)
theorem uf15b14 (P ts os Q) : awl P f15b14 Q ts os = awl P (.seq f15b13 f15b10) Q ts os := id rfl
def f15l15 : AQ := .loop [1, 3] [1] f15b14
theorem uf15l15 (P ts os Q) : awl P f15l15 Q ts os = awl P (.loop [1, 3] [1] f15b14) Q ts os := id rfl
def f15b16 : AQ := (.block 0 f15l15)
theorem uf15b16 (P ts os Q) : awl P f15b16 Q ts os = awl P (.block 0 f15l15) Q ts os := id rfl
def f15r17 : List AI := [⟨none, (.mov 3 (.v (.k (.c (.int .i64 0)))))⟩]
theorem uf15r17 : type_of% @f15r17.eq_1 := id @f15r17.eq_1
def f15b18 : AQ := (.seq (.region f15r17) f15b16)
theorem uf15b18 (P ts os Q) : awl P f15b18 Q ts os = awl P (.seq (.region f15r17) f15b16) Q ts os := id rfl
def f15b19 : AQ := (.seq f15b18 f15b2)
theorem uf15b19 (P ts os Q) : awl P f15b19 Q ts os = awl P (.seq f15b18 f15b2) Q ts os := id rfl
def f15r20 : List AI := [⟨none, (.mov 2 (.v (.k (.c (.bool false)))))⟩]
theorem uf15r20 : type_of% @f15r20.eq_1 := id @f15r20.eq_1
def f15b21 : AQ := (.seq (.region f15r20) .ret)
theorem uf15b21 (P ts os Q) : awl P f15b21 Q ts os = awl P (.seq (.region f15r20) .ret) Q ts os := id rfl
def f15b22 : AQ := (.cond (.t 13) f15b21 .skip)
theorem uf15b22 (P ts os Q) : awl P f15b22 Q ts os = awl P (.cond (.t 13) f15b21 .skip) Q ts os := id rfl
def f15r23 : List AI := [⟨none, (.faddr 4 2 (.t 1))⟩, ⟨none, (.load 5 1 false (.t 4))⟩, ⟨none, (.len 6 (.t 5))⟩, ⟨none, (.bin 7 .gtr (.t 6) (.v (.k (.c (.int .i64 60)))))⟩, ⟨none, (.mov 8 (.t 7))⟩, ⟨(some (8, false)), (.faddr 9 3 (.t 1))⟩, ⟨(some (8, false)), (.load 10 1 false (.t 9))⟩, ⟨(some (8, false)), (.len 11 (.t 10))⟩, ⟨(some (8, false)), (.bin 12 .gtr (.t 11) (.v (.k (.c (.int .i64 60)))))⟩, ⟨none, (.pick 13 (.t 8) (.v (.k (.c (.bool true)))) (.t 12))⟩]
theorem uf15r23 : type_of% @f15r23.eq_1 := id @f15r23.eq_1
def f15b24 : AQ := (.seq (.region f15r23) f15b22)
theorem uf15b24 (P ts os Q) : awl P f15b24 Q ts os = awl P (.seq (.region f15r23) f15b22) Q ts os := id rfl
def f15b25 : AQ := (.seq f15b24 f15b19)
theorem uf15b25 (P ts os Q) : awl P f15b25 Q ts os = awl P (.seq f15b24 f15b19) Q ts os := id rfl
def f15r26 : List AI := [⟨none, (.box 1 25 (.t 0))⟩, ⟨none, (.mov 2 (.v (.k (.c (.bool false)))))⟩]
theorem uf15r26 : type_of% @f15r26.eq_1 := id @f15r26.eq_1
def f15b27 : AQ := (.seq (.region f15r26) f15b25)
theorem uf15b27 (P ts os Q) : awl P f15b27 Q ts os = awl P (.seq (.region f15r26) f15b25) Q ts os := id rfl
def f15 : AQ := f15b27
theorem uf15 (P ts os Q) : awl P f15 Q ts os = awl P f15b27 Q ts os := id rfl
theorem hf15 : cFunc Try.prog 15 = some ⟨29, f15.erase, [(RX.t 2)]⟩ := by kernel_rfl
theorem okf15 : f15.ok = true := by kernel_rfl
def f16r1 : List AI := [⟨none, (.call (some 10) 44 [])⟩, ⟨none, (.mov 11 (.t 0))⟩, ⟨none, (.aidx 12 1 22 false (.t 10) (.t 11))⟩, ⟨none, (.mov 2 (.t 12))⟩, ⟨none, (.mov 3 (.v (.k (.c (.bool true)))))⟩]
theorem uf16r1 : type_of% @f16r1.eq_1 := id @f16r1.eq_1
def f16b2 : AQ := (.seq (.region f16r1) .ret)
theorem uf16b2 (P ts os Q) : awl P f16b2 Q ts os = awl P (.seq (.region f16r1) .ret) Q ts os := id rfl
def f16r3 : List AI := [⟨none, (.mov 2 (.v (.k (.c (.int .i64 0)))))⟩, ⟨none, (.mov 3 (.v (.k (.c (.bool false)))))⟩]
theorem uf16r3 : type_of% @f16r3.eq_1 := id @f16r3.eq_1
def f16b4 : AQ := (.seq (.region f16r3) .ret)
theorem uf16b4 (P ts os Q) : awl P f16b4 Q ts os = awl P (.seq (.region f16r3) .ret) Q ts os := id rfl
def f16b5 : AQ := (.cond (.t 9) f16b4 .skip)
theorem uf16b5 (P ts os Q) : awl P f16b5 Q ts os = awl P (.cond (.t 9) f16b4 .skip) Q ts os := id rfl
def f16r6 : List AI := [⟨none, (.mov 4 (.t 0))⟩, ⟨none, (.bin 5 .lss (.t 4) (.v (.k (.c (.int .i64 0)))))⟩, ⟨none, (.mov 6 (.t 5))⟩, ⟨(some (6, false)), (.mov 7 (.t 0))⟩, ⟨(some (6, false)), (.bin 8 .geq (.t 7) (.v (.k (.c (.int .i64 22)))))⟩, ⟨none, (.pick 9 (.t 6) (.v (.k (.c (.bool true)))) (.t 8))⟩]
theorem uf16r6 : type_of% @f16r6.eq_1 := id @f16r6.eq_1
def f16b7 : AQ := (.seq (.region f16r6) f16b5)
theorem uf16b7 (P ts os Q) : awl P f16b7 Q ts os = awl P (.seq (.region f16r6) f16b5) Q ts os := id rfl
def f16b8 : AQ := (.seq f16b7 f16b2)
theorem uf16b8 (P ts os Q) : awl P f16b8 Q ts os = awl P (.seq f16b7 f16b2) Q ts os := id rfl
def f16r9 : List AI := [⟨none, (.mov 2 (.v (.k (.c (.int .i64 0)))))⟩, ⟨none, (.mov 3 (.v (.k (.c (.bool false)))))⟩]
theorem uf16r9 : type_of% @f16r9.eq_1 := id @f16r9.eq_1
def f16b10 : AQ := (.seq (.region f16r9) f16b8)
theorem uf16b10 (P ts os Q) : awl P f16b10 Q ts os = awl P (.seq (.region f16r9) f16b8) Q ts os := id rfl
def f16 : AQ := f16b10
theorem uf16 (P ts os Q) : awl P f16 Q ts os = awl P f16b10 Q ts os := id rfl
theorem hf16 : cFunc Try.prog 16 = some ⟨13, f16.erase, [(RX.t 2), (RX.t 3)]⟩ := by kernel_rfl
theorem okf16 : f16.ok = true := by kernel_rfl
def f18r1 : List AI := [⟨none, (.mov 2 (.v (.k (.c (.int .i64 (-1))))))⟩, ⟨none, (.mov 3 (.v (.k (.c (.int .i64 0)))))⟩]
theorem uf18r1 : type_of% @f18r1.eq_1 := id @f18r1.eq_1
def f18b2 : AQ := (.seq (.region f18r1) .ret)
theorem uf18b2 (P ts os Q) : awl P f18b2 Q ts os = awl P (.seq (.region f18r1) .ret) Q ts os := id rfl
def f18r3 : List AI := [⟨none, (.bin 20 .add (.t 9) (.v (.k (.c (.int .i64 1)))))⟩, ⟨none, (.mov 9 (.t 20))⟩]
theorem uf18r3 : type_of% @f18r3.eq_1 := id @f18r3.eq_1
def f18r4 : List AI := [⟨none, (.mov 18 (.t 4))⟩, ⟨none, (.mov 19 (.t 6))⟩, ⟨none, (.mov 2 (.t 18))⟩, ⟨none, (.mov 3 (.t 19))⟩]
theorem uf18r4 : type_of% @f18r4.eq_1 := id @f18r4.eq_1
def f18b5 : AQ := (.seq (.region f18r4) .ret)
theorem uf18b5 (P ts os Q) : awl P f18b5 Q ts os = awl P (.seq (.region f18r4) .ret) Q ts os := id rfl
def f18b6 : AQ := (.cond (.t 17) f18b5 .skip)
theorem uf18b6 (P ts os Q) : awl P f18b6 Q ts os = awl P (.cond (.t 17) f18b5 .skip) Q ts os := id rfl
def f18r7 : List AI := [⟨none, (.mov 16 (.t 6))⟩, ⟨none, (.bin 17 .neq (.t 16) (.v (.k (.c (.int .i64 0)))))⟩]
theorem uf18r7 : type_of% @f18r7.eq_1 := id @f18r7.eq_1
def f18b8 : AQ := (.seq (.region f18r7) f18b6)
theorem uf18b8 (P ts os Q) : awl P f18b8 Q ts os = awl P (.seq (.region f18r7) f18b6) Q ts os := id rfl
def f18r9 : List AI := [⟨none, (.load 14 4 true (.t 5))⟩, ⟨none, (.call (some 15) 20 [(.t 14)])⟩, ⟨none, (.mov 6 (.t 15))⟩]
theorem uf18r9 : type_of% @f18r9.eq_1 := id @f18r9.eq_1
def f18b10 : AQ := (.seq (.region f18r9) f18b8)
theorem uf18b10 (P ts os Q) : awl P f18b10 Q ts os = awl P (.seq (.region f18r9) f18b8) Q ts os := id rfl
def f18r11 : List AI := [⟨none, (.mov 11 (.t 9))⟩, ⟨none, (.iaddr 12 4 (.t 7) (.t 9))⟩, ⟨none, (.load 13 4 true (.t 12))⟩, ⟨none, (.alloc 5 25 [(.str []), (.bool false), (.list 0 (some true) []), (.list 0 (some true) [])])⟩, ⟨none, (.mov 4 (.t 11))⟩, ⟨none, (.store 4 (.t 5) (.t 13))⟩]
theorem uf18r11 : type_of% @f18r11.eq_1 := id @f18r11.eq_1
def f18b12 : AQ := (.seq (.region f18r11) f18b10)
theorem uf18b12 (P ts os Q) : awl P f18b12 Q ts os = awl P (.seq (.region f18r11) f18b10) Q ts os := id rfl
def f18b13 : AQ := (.block 1 f18b12)
theorem uf18b13 (P ts os Q) : awl P f18b13 Q ts os = awl P (.block 1 f18b12) Q ts os := id rfl
def f18b14 : AQ := (.seq f18b13 (.region f18r3))
theorem uf18b14 (P ts os Q) : awl P f18b14 Q ts os = awl P (.seq f18b13 (.region f18r3)) Q ts os := id rfl
def f18b15 : AQ := (.cond (.t 10) .skip (.exit 0))
theorem uf18b15 (P ts os Q) : awl P f18b15 Q ts os = awl P (.cond (.t 10) .skip (.exit 0)) Q ts os := id rfl
def f18b16 : AQ := (.seq f18b15 f18b14)
theorem uf18b16 (P ts os Q) : awl P f18b16 Q ts os = awl P (.seq f18b15 f18b14) Q ts os := id rfl
def f18r17 : List AI := [⟨none, (.bin 10 .lss (.t 9) (.t 8))⟩]
theorem uf18r17 : type_of% @f18r17.eq_1 := id @f18r17.eq_1
def f18b18 : AQ := (.seq (.region f18r17) f18b16)
theorem uf18b18 (P ts os Q) : awl P f18b18 Q ts os = awl P (.seq (.region f18r17) f18b16) Q ts os := id rfl
def f18l19 : AQ := .loop [7, 8, 9] [] f18b18
theorem uf18l19 (P ts os Q) : awl P f18l19 Q ts os = awl P (.loop [7, 8, 9] [] f18b18) Q ts os := id rfl
def f18b20 : AQ := (.block 0 f18l19)
theorem uf18b20 (P ts os Q) : awl P f18b20 Q ts os = awl P (.block 0 f18l19) Q ts os := id rfl
def f18r21 : List AI := [⟨none, (.mov 7 (.t 0))⟩, ⟨none, (.len 8 (.t 7))⟩, ⟨none, (.mov 9 (.v (.k (.c (.int .i64 0)))))⟩]
theorem uf18r21 : type_of% @f18r21.eq_1 := id @f18r21.eq_1
def f18b22 : AQ := (.seq (.region f18r21) f18b20)
theorem uf18b22 (P ts os Q) : awl P f18b22 Q ts os = awl P (.seq (.region f18r21) f18b20) Q ts os := id rfl
def f18b23 : AQ := (.seq f18b22 f18b2)
theorem uf18b23 (P ts os Q) : awl P f18b23 Q ts os = awl P (.seq f18b22 f18b2) Q ts os := id rfl
def f18r24 : List AI := [⟨none, (.mov 2 (.v (.k (.c (.int .i64 0)))))⟩, ⟨none, (.mov 3 (.v (.k (.c (.int .i64 0)))))⟩]
theorem uf18r24 : type_of% @f18r24.eq_1 := id @f18r24.eq_1
def f18b25 : AQ := (.seq (.region f18r24) f18b23)
theorem uf18b25 (P ts os Q) : awl P f18b25 Q ts os = awl P (.seq (.region f18r24) f18b23) Q ts os := id rfl
def f18 : AQ := f18b25
theorem uf18 (P ts os Q) : awl P f18 Q ts os = awl P f18b25 Q ts os := id rfl
theorem hf18 : cFunc Try.prog 18 = some ⟨21, f18.erase, [(RX.t 2), (RX.t 3)]⟩ := by kernel_rfl
theorem okf18 : f18.ok = true := by kernel_rfl
def f20r1 : List AI := [⟨none, (.mov 2 (.v (.k (.c (.int .i64 0)))))⟩]
theorem uf20r1 : type_of% @f20r1.eq_1 := id @f20r1.eq_1
def f20b2 : AQ := (.seq (.region f20r1) .ret)
theorem uf20b2 (P ts os Q) : awl P f20b2 Q ts os = awl P (.seq (.region f20r1) .ret) Q ts os := id rfl
def f20r3 : List AI := [⟨none, (.bin 76 .add (.t 57) (.v (.k (.c (.int .i64 1)))))⟩, ⟨none, (.mov 57 (.t 76))⟩]
theorem uf20r3 : type_of% @f20r3.eq_1 := id @f20r3.eq_1
def f20r4 : List AI := [⟨none, (.mov 2 (.v (.k (.c (.int .i64 11)))))⟩]
theorem uf20r4 : type_of% @f20r4.eq_1 := id @f20r4.eq_1
def f20b5 : AQ := (.seq (.region f20r4) .ret)
theorem uf20b5 (P ts os Q) : awl P f20b5 Q ts os = awl P (.seq (.region f20r4) .ret) Q ts os := id rfl
def f20b6 : AQ := (.cond (.t 75) f20b5 .skip)
theorem uf20b6 (P ts os Q) : awl P f20b6 Q ts os = awl P (.cond (.t 75) f20b5 .skip) Q ts os := id rfl
def f20r7 : List AI := [⟨none, (.mov 70 (.t 11))⟩, ⟨none, (.faddr 71 0 (.t 10))⟩, ⟨none, (.load 72 1 false (.t 71))⟩, ⟨none, (.iaddrA 73 1 22 (.t 8) (.t 72))⟩, ⟨none, (.load 74 1 false (.t 73))⟩, ⟨none, (.bin 75 .neq (.t 70) (.t 74))⟩]
theorem uf20r7 : type_of% @f20r7.eq_1 := id @f20r7.eq_1
def f20b8 : AQ := (.seq (.region f20r7) f20b6)
theorem uf20b8 (P ts os Q) : awl P f20b8 Q ts os = awl P (.seq (.region f20r7) f20b6) Q ts os := id rfl
def f20r9 : List AI := [⟨none, (.mov 69 (.t 12))⟩, ⟨none, (.mov 2 (.t 69))⟩]
theorem uf20r9 : type_of% @f20r9.eq_1 := id @f20r9.eq_1
def f20b10 : AQ := (.seq (.region f20r9) .ret)
theorem uf20b10 (P ts os Q) : awl P f20b10 Q ts os = awl P (.seq (.region f20r9) .ret) Q ts os := id rfl
def f20b11 : AQ := (.cond (.t 68) f20b10 .skip)
theorem uf20b11 (P ts os Q) : awl P f20b11 Q ts os = awl P (.cond (.t 68) f20b10 .skip) Q ts os := id rfl
def f20r12 : List AI := [⟨none, (.mov 67 (.t 12))⟩, ⟨none, (.bin 68 .neq (.t 67) (.v (.k (.c (.int .i64 0)))))⟩]
theorem uf20r12 : type_of% @f20r12.eq_1 := id @f20r12.eq_1
def f20b13 : AQ := (.seq (.region f20r12) f20b11)
theorem uf20b13 (P ts os Q) : awl P f20b13 Q ts os = awl P (.seq (.region f20r12) f20b11) Q ts os := id rfl
def f20b14 : AQ := (.seq f20b13 f20b8)
theorem uf20b14 (P ts os Q) : awl P f20b14 Q ts os = awl P (.seq f20b13 f20b8) Q ts os := id rfl
def f20r15 : List AI := [⟨none, (.faddr 62 1 (.t 10))⟩, ⟨none, (.load 63 3 true (.t 62))⟩, ⟨none, (.call (some 64) 31 [(.t 63)])⟩, ⟨none, (.mov 61 (.t 64))⟩, ⟨none, (.extr 65 (.t 61) 0)⟩, ⟨none, (.extr 66 (.t 61) 1)⟩, ⟨none, (.mov 11 (.t 65))⟩, ⟨none, (.mov 12 (.t 66))⟩]
theorem uf20r15 : type_of% @f20r15.eq_1 := id @f20r15.eq_1
def f20b16 : AQ := (.seq (.region f20r15) f20b14)
theorem uf20b16 (P ts os Q) : awl P f20b16 Q ts os = awl P (.seq (.region f20r15) f20b14) Q ts os := id rfl
def f20r17 : List AI := [⟨none, (.iaddr 59 4 (.t 55) (.t 57))⟩, ⟨none, (.load 60 4 true (.t 59))⟩, ⟨none, (.alloc 10 43 [(.int .i64 0), (.int .i64 0), (.int .i64 0), (.list 0 (some true) [])])⟩, ⟨none, (.store 4 (.t 10) (.t 60))⟩]
theorem uf20r17 : type_of% @f20r17.eq_1 := id @f20r17.eq_1
def f20b18 : AQ := (.seq (.region f20r17) f20b16)
theorem uf20b18 (P ts os Q) : awl P f20b18 Q ts os = awl P (.seq (.region f20r17) f20b16) Q ts os := id rfl
def f20b19 : AQ := (.block 5 f20b18)
theorem uf20b19 (P ts os Q) : awl P f20b19 Q ts os = awl P (.block 5 f20b18) Q ts os := id rfl
def f20b20 : AQ := (.seq f20b19 (.region f20r3))
theorem uf20b20 (P ts os Q) : awl P f20b20 Q ts os = awl P (.seq f20b19 (.region f20r3)) Q ts os := id rfl
def f20b21 : AQ := (.cond (.t 58) .skip (.exit 4))
theorem uf20b21 (P ts os Q) : awl P f20b21 Q ts os = awl P (.cond (.t 58) .skip (.exit 4)) Q ts os := id rfl
def f20b22 : AQ := (.seq f20b21 f20b20)
theorem uf20b22 (P ts os Q) : awl P f20b22 Q ts os = awl P (.seq f20b21 f20b20) Q ts os := id rfl
def f20r23 : List AI := [⟨none, (.bin 58 .lss (.t 57) (.t 56))⟩]
theorem uf20r23 : type_of% @f20r23.eq_1 := id @f20r23.eq_1
def f20b24 : AQ := (.seq (.region f20r23) f20b22)
theorem uf20b24 (P ts os Q) : awl P f20b24 Q ts os = awl P (.seq (.region f20r23) f20b22) Q ts os := id rfl
def f20l25 : AQ := .loop [8, 55, 56, 57] [8, 53, 54000, 54001, 54002] f20b24
theorem uf20l25 (P ts os Q) : awl P f20l25 Q ts os = awl P (.loop [8, 55, 56, 57] [8, 53, 54000, 54001, 54002] f20b24) Q ts os := id rfl
def f20b26 : AQ := (.block 4 f20l25)
theorem uf20b26 (P ts os Q) : awl P f20b26 Q ts os = awl P (.block 4 f20l25) Q ts os := id rfl
def f20r27 : List AI := [⟨none, (.faddr 54 3 (.t 1))⟩, ⟨none, (.load 55 1 false (.t 54))⟩, ⟨none, (.len 56 (.t 55))⟩, ⟨none, (.mov 57 (.v (.k (.c (.int .i64 0)))))⟩]
theorem uf20r27 : type_of% @f20r27.eq_1 := id @f20r27.eq_1
def f20b28 : AQ := (.seq (.region f20r27) f20b26)
theorem uf20b28 (P ts os Q) : awl P f20b28 Q ts os = awl P (.seq (.region f20r27) f20b26) Q ts os := id rfl
def f20b29 : AQ := (.seq f20b28 f20b2)
theorem uf20b29 (P ts os Q) : awl P f20b29 Q ts os = awl P (.seq f20b28 f20b2) Q ts os := id rfl
def f20r30 : List AI := [⟨none, (.call (some 53) 44 [])⟩, ⟨none, (.alloc 8 65 [(.int .i64 0), (.int .i64 0), (.int .i64 0), (.int .i64 0), (.int .i64 0), (.int .i64 0), (.int .i64 0), (.int .i64 0), (.int .i64 0), (.int .i64 0), (.int .i64 0), (.int .i64 0), (.int .i64 0), (.int .i64 0), (.int .i64 0), (.int .i64 0), (.int .i64 0), (.int .i64 0), (.int .i64 0), (.int .i64 0), (.int .i64 0), (.int .i64 0)])⟩, ⟨none, (.store 22 (.t 8) (.t 53))⟩]
theorem uf20r30 : type_of% @f20r30.eq_1 := id @f20r30.eq_1
def f20b31 : AQ := (.seq (.region f20r30) f20b29)
theorem uf20b31 (P ts os Q) : awl P f20b31 Q ts os = awl P (.seq (.region f20r30) f20b29) Q ts os := id rfl
def f20r32 : List AI := [⟨none, (.bin 52 .add (.t 41) (.v (.k (.c (.int .i64 1)))))⟩, ⟨none, (.mov 41 (.t 52))⟩]
theorem uf20r32 : type_of% @f20r32.eq_1 := id @f20r32.eq_1
def f20r33 : List AI := [⟨none, (.faddr 50 0 (.t 7))⟩, ⟨none, (.load 51 1 false (.t 50))⟩, ⟨none, (.mov 3 (.t 51))⟩]
theorem uf20r33 : type_of% @f20r33.eq_1 := id @f20r33.eq_1
def f20r34 : List AI := [⟨none, (.mov 2 (.v (.k (.c (.int .i64 1)))))⟩]
theorem uf20r34 : type_of% @f20r34.eq_1 := id @f20r34.eq_1
def f20b35 : AQ := (.seq (.region f20r34) .ret)
theorem uf20b35 (P ts os Q) : awl P f20b35 Q ts os = awl P (.seq (.region f20r34) .ret) Q ts os := id rfl
def f20b36 : AQ := (.cond (.t 49) f20b35 .skip)
theorem uf20b36 (P ts os Q) : awl P f20b36 Q ts os = awl P (.cond (.t 49) f20b35 .skip) Q ts os := id rfl
def f20r37 : List AI := [⟨none, (.mov 45 (.t 3))⟩, ⟨none, (.faddr 46 0 (.t 7))⟩, ⟨none, (.load 47 1 false (.t 46))⟩, ⟨none, (.call (some 48) 45 [(.t 45), (.t 47)])⟩, ⟨none, (.un 49 .not (.t 48))⟩]
theorem uf20r37 : type_of% @f20r37.eq_1 := id @f20r37.eq_1
def f20b38 : AQ := (.seq (.region f20r37) f20b36)
theorem uf20b38 (P ts os Q) : awl P f20b38 Q ts os = awl P (.seq (.region f20r37) f20b36) Q ts os := id rfl
def f20b39 : AQ := (.seq f20b38 (.region f20r33))
theorem uf20b39 (P ts os Q) : awl P f20b39 Q ts os = awl P (.seq f20b38 (.region f20r33)) Q ts os := id rfl
def f20r40 : List AI := [⟨none, (.iaddr 43 4 (.t 39) (.t 41))⟩, ⟨none, (.load 44 4 true (.t 43))⟩, ⟨none, (.alloc 7 43 [(.int .i64 0), (.int .i64 0), (.int .i64 0), (.list 0 (some true) [])])⟩, ⟨none, (.store 4 (.t 7) (.t 44))⟩]
theorem uf20r40 : type_of% @f20r40.eq_1 := id @f20r40.eq_1
def f20b41 : AQ := (.seq (.region f20r40) f20b39)
theorem uf20b41 (P ts os Q) : awl P f20b41 Q ts os = awl P (.seq (.region f20r40) f20b39) Q ts os := id rfl
def f20b42 : AQ := (.block 3 f20b41)
theorem uf20b42 (P ts os Q) : awl P f20b42 Q ts os = awl P (.block 3 f20b41) Q ts os := id rfl
def f20b43 : AQ := (.seq f20b42 (.region f20r32))
theorem uf20b43 (P ts os Q) : awl P f20b43 Q ts os = awl P (.seq f20b42 (.region f20r32)) Q ts os := id rfl
def f20b44 : AQ := (.cond (.t 42) .skip (.exit 2))
theorem uf20b44 (P ts os Q) : awl P f20b44 Q ts os = awl P (.cond (.t 42) .skip (.exit 2)) Q ts os := id rfl
def f20b45 : AQ := (.seq f20b44 f20b43)
theorem uf20b45 (P ts os Q) : awl P f20b45 Q ts os = awl P (.seq f20b44 f20b43) Q ts os := id rfl
def f20r46 : List AI := [⟨none, (.bin 42 .lss (.t 41) (.t 40))⟩]
theorem uf20r46 : type_of% @f20r46.eq_1 := id @f20r46.eq_1
def f20b47 : AQ := (.seq (.region f20r46) f20b45)
theorem uf20b47 (P ts os Q) : awl P f20b47 Q ts os = awl P (.seq (.region f20r46) f20b45) Q ts os := id rfl
def f20l48 : AQ := .loop [1, 3, 39, 40, 41] [1] f20b47
theorem uf20l48 (P ts os Q) : awl P f20l48 Q ts os = awl P (.loop [1, 3, 39, 40, 41] [1] f20b47) Q ts os := id rfl
def f20b49 : AQ := (.block 2 f20l48)
theorem uf20b49 (P ts os Q) : awl P f20b49 Q ts os = awl P (.block 2 f20l48) Q ts os := id rfl
def f20r50 : List AI := [⟨none, (.faddr 38 3 (.t 1))⟩, ⟨none, (.load 39 1 false (.t 38))⟩, ⟨none, (.len 40 (.t 39))⟩, ⟨none, (.mov 41 (.v (.k (.c (.int .i64 0)))))⟩]
theorem uf20r50 : type_of% @f20r50.eq_1 := id @f20r50.eq_1
def f20b51 : AQ := (.seq (.region f20r50) f20b49)
theorem uf20b51 (P ts os Q) : awl P f20b51 Q ts os = awl P (.seq (.region f20r50) f20b49) Q ts os := id rfl
def f20b52 : AQ := (.seq f20b51 f20b31)
theorem uf20b52 (P ts os Q) : awl P f20b52 Q ts os = awl P (.seq f20b51 f20b31) Q ts os := id rfl
def f20r53 : List AI := [⟨none, (.mov 3 (.v (.k (.c (.int .i64 (-1))))))⟩]
theorem uf20r53 : type_of% @f20r53.eq_1 := id @f20r53.eq_1
def f20b54 : AQ := (.seq (.region f20r53) f20b52)
theorem uf20b54 (P ts os Q) : awl P f20b54 Q ts os = awl P (.seq (.region f20r53) f20b52) Q ts os := id rfl
def f20r55 : List AI := [⟨none, (.bin 37 .add (.t 16) (.v (.k (.c (.int .i64 1)))))⟩, ⟨none, (.mov 16 (.t 37))⟩]
theorem uf20r55 : type_of% @f20r55.eq_1 := id @f20r55.eq_1
def f20r56 : List AI := [⟨none, (.faddr 35 0 (.t 5))⟩, ⟨none, (.load 36 1 false (.t 35))⟩, ⟨none, (.mov 3 (.t 36))⟩]
theorem uf20r56 : type_of% @f20r56.eq_1 := id @f20r56.eq_1
def f20r57 : List AI := [⟨none, (.mov 2 (.v (.k (.c (.int .i64 1)))))⟩]
theorem uf20r57 : type_of% @f20r57.eq_1 := id @f20r57.eq_1
def f20b58 : AQ := (.seq (.region f20r57) .ret)
theorem uf20b58 (P ts os Q) : awl P f20b58 Q ts os = awl P (.seq (.region f20r57) .ret) Q ts os := id rfl
def f20b59 : AQ := (.cond (.t 34) f20b58 .skip)
theorem uf20b59 (P ts os Q) : awl P f20b59 Q ts os = awl P (.cond (.t 34) f20b58 .skip) Q ts os := id rfl
def f20r60 : List AI := [⟨none, (.mov 20 (.t 3))⟩, ⟨none, (.faddr 21 0 (.t 5))⟩, ⟨none, (.load 22 1 false (.t 21))⟩, ⟨none, (.call (some 23) 45 [(.t 20), (.t 22)])⟩, ⟨none, (.un 24 .not (.t 23))⟩, ⟨none, (.mov 25 (.t 24))⟩, ⟨(some (25, false)), (.faddr 26 1 (.t 5))⟩, ⟨(some (25, false)), (.load 27 1 false (.t 26))⟩, ⟨(some (25, false)), (.bin 28 .lss (.t 27) (.v (.k (.c (.int .i64 0)))))⟩, ⟨none, (.pick 29 (.t 25) (.v (.k (.c (.bool true)))) (.t 28))⟩, ⟨none, (.mov 30 (.t 29))⟩, ⟨(some (30, false)), (.faddr 31 1 (.t 5))⟩, ⟨(some (30, false)), (.load 32 1 false (.t 31))⟩, ⟨(some (30, false)), (.bin 33 .geq (.t 32) (.v (.k (.c (.int .i64 5)))))⟩, ⟨none, (.pick 34 (.t 30) (.v (.k (.c (.bool true)))) (.t 33))⟩]
theorem uf20r60 : type_of% @f20r60.eq_1 := id @f20r60.eq_1
def f20b61 : AQ := (.seq (.region f20r60) f20b59)
theorem uf20b61 (P ts os Q) : awl P f20b61 Q ts os = awl P (.seq (.region f20r60) f20b59) Q ts os := id rfl
def f20b62 : AQ := (.seq f20b61 (.region f20r56))
theorem uf20b62 (P ts os Q) : awl P f20b62 Q ts os = awl P (.seq f20b61 (.region f20r56)) Q ts os := id rfl
def f20r63 : List AI := [⟨none, (.iaddr 18 3 (.t 14) (.t 16))⟩, ⟨none, (.load 19 3 true (.t 18))⟩, ⟨none, (.alloc 5 45 [(.int .i64 0), (.int .i64 0), (.bool false)])⟩, ⟨none, (.store 3 (.t 5) (.t 19))⟩]
theorem uf20r63 : type_of% @f20r63.eq_1 := id @f20r63.eq_1
def f20b64 : AQ := (.seq (.region f20r63) f20b62)
theorem uf20b64 (P ts os Q) : awl P f20b64 Q ts os = awl P (.seq (.region f20r63) f20b62) Q ts os := id rfl
def f20b65 : AQ := (.block 1 f20b64)
theorem uf20b65 (P ts os Q) : awl P f20b65 Q ts os = awl P (.block 1 f20b64) Q ts os := id rfl
def f20b66 : AQ := (.seq f20b65 (.region f20r55))
theorem uf20b66 (P ts os Q) : awl P f20b66 Q ts os = awl P (.seq f20b65 (.region f20r55)) Q ts os := id rfl
def f20b67 : AQ := (.cond (.t 17) .skip (.exit 0))
theorem uf20b67 (P ts os Q) : awl P f20b67 Q ts os = awl P (.cond (.t 17) .skip (.exit 0)) Q ts os := id rfl
def f20b68 : AQ := (.seq f20b67 f20b66)
theorem uf20b68 (P ts os Q) : awl P f20b68 Q ts os = awl P (.seq f20b67 f20b66) Q ts os := id rfl
def f20r69 : List AI := [⟨none, (.bin 17 .lss (.t 16) (.t 15))⟩]
theorem uf20r69 : type_of% @f20r69.eq_1 := id @f20r69.eq_1
def f20b70 : AQ := (.seq (.region f20r69) f20b68)
theorem uf20b70 (P ts os Q) : awl P f20b70 Q ts os = awl P (.seq (.region f20r69) f20b68) Q ts os := id rfl
def f20l71 : AQ := .loop [1, 3, 14, 15, 16] [1] f20b70
theorem uf20l71 (P ts os Q) : awl P f20l71 Q ts os = awl P (.loop [1, 3, 14, 15, 16] [1] f20b70) Q ts os := id rfl
def f20b72 : AQ := (.block 0 f20l71)
theorem uf20b72 (P ts os Q) : awl P f20b72 Q ts os = awl P (.block 0 f20l71) Q ts os := id rfl
def f20r73 : List AI := [⟨none, (.faddr 13 2 (.t 1))⟩, ⟨none, (.load 14 1 false (.t 13))⟩, ⟨none, (.len 15 (.t 14))⟩, ⟨none, (.mov 16 (.v (.k (.c (.int .i64 0)))))⟩]
theorem uf20r73 : type_of% @f20r73.eq_1 := id @f20r73.eq_1
def f20b74 : AQ := (.seq (.region f20r73) f20b72)
theorem uf20b74 (P ts os Q) : awl P f20b74 Q ts os = awl P (.seq (.region f20r73) f20b72) Q ts os := id rfl
def f20b75 : AQ := (.seq f20b74 f20b54)
theorem uf20b75 (P ts os Q) : awl P f20b75 Q ts os = awl P (.seq f20b74 f20b54) Q ts os := id rfl
def f20r76 : List AI := [⟨none, (.mov 3 (.v (.k (.c (.int .i64 (-1))))))⟩]
theorem uf20r76 : type_of% @f20r76.eq_1 := id @f20r76.eq_1
def f20b77 : AQ := (.seq (.region f20r76) f20b75)
theorem uf20b77 (P ts os Q) : awl P f20b77 Q ts os = awl P (.seq (.region f20r76) f20b75) Q ts os := id rfl
def f20r78 : List AI := [⟨none, (.box 1 25 (.t 0))⟩, ⟨none, (.mov 2 (.v (.k (.c (.int .i64 0)))))⟩]
theorem uf20r78 : type_of% @f20r78.eq_1 := id @f20r78.eq_1
def f20b79 : AQ := (.seq (.region f20r78) f20b77)
theorem uf20b79 (P ts os Q) : awl P f20b79 Q ts os = awl P (.seq (.region f20r78) f20b77) Q ts os := id rfl
def f20 : AQ := f20b79
theorem uf20 (P ts os Q) : awl P f20 Q ts os = awl P f20b79 Q ts os := id rfl
theorem hf20 : cFunc Try.prog 20 = some ⟨77, f20.erase, [(RX.t 2)]⟩ := by kernel_rfl
theorem okf20 : f20.ok = true := by kernel_rfl
def f22r1 : List AI := [⟨none, (.mov 4 (.v (.k (.c (.bool true)))))⟩]
theorem uf22r1 : type_of% @f22r1.eq_1 := id @f22r1.eq_1
def f22b2 : AQ := (.seq (.region f22r1) .ret)
theorem uf22b2 (P ts os Q) : awl P f22b2 Q ts os = awl P (.seq (.region f22r1) .ret) Q ts os := id rfl
def f22r3 : List AI := [⟨none, (.mov 15 (.t 5))⟩, ⟨none, (.bin 16 .add (.t 15) (.v (.k (.c (.int .i64 1)))))⟩, ⟨none, (.mov 5 (.t 16))⟩]
theorem uf22r3 : type_of% @f22r3.eq_1 := id @f22r3.eq_1
def f22r4 : List AI := [⟨none, (.mov 4 (.v (.k (.c (.bool false)))))⟩]
theorem uf22r4 : type_of% @f22r4.eq_1 := id @f22r4.eq_1
def f22b5 : AQ := (.seq (.region f22r4) .ret)
theorem uf22b5 (P ts os Q) : awl P f22b5 Q ts os = awl P (.seq (.region f22r4) .ret) Q ts os := id rfl
def f22b6 : AQ := (.cond (.t 25) f22b5 .skip)
theorem uf22b6 (P ts os Q) : awl P f22b6 Q ts os = awl P (.cond (.t 25) f22b5 .skip) Q ts os := id rfl
def f22r7 : List AI := [⟨none, (.mov 17 (.t 0))⟩, ⟨none, (.mov 18 (.t 5))⟩, ⟨none, (.iaddr 19 1 (.t 17) (.t 18))⟩, ⟨none, (.load 20 1 false (.t 19))⟩, ⟨none, (.mov 21 (.t 1))⟩, ⟨none, (.mov 22 (.t 5))⟩, ⟨none, (.iaddr 23 1 (.t 21) (.t 22))⟩, ⟨none, (.load 24 1 false (.t 23))⟩, ⟨none, (.bin 25 .neq (.t 20) (.t 24))⟩]
theorem uf22r7 : type_of% @f22r7.eq_1 := id @f22r7.eq_1
def f22b8 : AQ := (.seq (.draw f22r7 [[], [], [0, 1], [2], [], [], [4, 5], [6], [3, 7]]) f22b6)
theorem uf22b8 (P ts os Q) : awl P f22b8 Q ts os = awl P (.seq (.draw f22r7 [[], [], [0, 1], [2], [], [], [4, 5], [6], [3, 7]]) f22b6) Q ts os := id rfl
def f22b9 : AQ := (.block 1 f22b8)
theorem uf22b9 (P ts os Q) : awl P f22b9 Q ts os = awl P (.block 1 f22b8) Q ts os := id rfl
def f22b10 : AQ := (.seq f22b9 (.region f22r3))
theorem uf22b10 (P ts os Q) : awl P f22b10 Q ts os = awl P (.seq f22b9 (.region f22r3)) Q ts os := id rfl
def f22b11 : AQ := (.cond (.t 14) .skip (.exit 0))
theorem uf22b11 (P ts os Q) : awl P f22b11 Q ts os = awl P (.cond (.t 14) .skip (.exit 0)) Q ts os := id rfl
def f22r12 : List AI := [⟨none, (.mov 11 (.t 5))⟩, ⟨none, (.mov 12 (.t 0))⟩, ⟨none, (.len 13 (.t 12))⟩, ⟨none, (.bin 14 .lss (.t 11) (.t 13))⟩]
theorem uf22r12 : type_of% @f22r12.eq_1 := id @f22r12.eq_1
def f22b13 : AQ := (.seq (.region f22r12) f22b11)
theorem uf22b13 (P ts os Q) : awl P f22b13 Q ts os = awl P (.seq (.region f22r12) f22b11) Q ts os := id rfl
def f22b14 : AQ := (.seq f22b13 f22b10)
theorem uf22b14 (P ts os Q) : awl P f22b14 Q ts os = awl P (.seq f22b13 f22b10) Q ts os := id rfl
def f22l15 : AQ := .loop [0, 1, 5] [] f22b14
theorem uf22l15 (P ts os Q) : awl P f22l15 Q ts os = awl P (.loop [0, 1, 5] [] f22b14) Q ts os := id rfl
def f22b16 : AQ := (.block 0 f22l15)
theorem uf22b16 (P ts os Q) : awl P f22b16 Q ts os = awl P (.block 0 f22l15) Q ts os := id rfl
def f22r17 : List AI := [⟨none, (.mov 5 (.v (.k (.c (.int .i64 0)))))⟩]
theorem uf22r17 : type_of% @f22r17.eq_1 := id @f22r17.eq_1
def f22b18 : AQ := (.seq (.region f22r17) f22b16)
theorem uf22b18 (P ts os Q) : awl P f22b18 Q ts os = awl P (.seq (.region f22r17) f22b16) Q ts os := id rfl
def f22b19 : AQ := (.seq f22b18 f22b2)
theorem uf22b19 (P ts os Q) : awl P f22b19 Q ts os = awl P (.seq f22b18 f22b2) Q ts os := id rfl
def f22r20 : List AI := [⟨none, (.mov 4 (.v (.k (.c (.bool false)))))⟩]
theorem uf22r20 : type_of% @f22r20.eq_1 := id @f22r20.eq_1
def f22b21 : AQ := (.seq (.region f22r20) .ret)
theorem uf22b21 (P ts os Q) : awl P f22b21 Q ts os = awl P (.seq (.region f22r20) .ret) Q ts os := id rfl
def f22b22 : AQ := (.cond (.t 10) f22b21 .skip)
theorem uf22b22 (P ts os Q) : awl P f22b22 Q ts os = awl P (.cond (.t 10) f22b21 .skip) Q ts os := id rfl
def f22r23 : List AI := [⟨none, (.mov 6 (.t 0))⟩, ⟨none, (.len 7 (.t 6))⟩, ⟨none, (.mov 8 (.t 1))⟩, ⟨none, (.len 9 (.t 8))⟩, ⟨none, (.bin 10 .neq (.t 7) (.t 9))⟩]
theorem uf22r23 : type_of% @f22r23.eq_1 := id @f22r23.eq_1
def f22b24 : AQ := (.seq (.region f22r23) f22b22)
theorem uf22b24 (P ts os Q) : awl P f22b24 Q ts os = awl P (.seq (.region f22r23) f22b22) Q ts os := id rfl
def f22b25 : AQ := (.seq f22b24 f22b19)
theorem uf22b25 (P ts os Q) : awl P f22b25 Q ts os = awl P (.seq f22b24 f22b19) Q ts os := id rfl
def f22r26 : List AI := [⟨none, (.mov 4 (.v (.k (.c (.bool false)))))⟩]
theorem uf22r26 : type_of% @f22r26.eq_1 := id @f22r26.eq_1
def f22b27 : AQ := (.seq (.region f22r26) f22b25)
theorem uf22b27 (P ts os Q) : awl P f22b27 Q ts os = awl P (.seq (.region f22r26) f22b25) Q ts os := id rfl
def f22 : AQ := f22b27
theorem uf22 (P ts os Q) : awl P f22 Q ts os = awl P f22b27 Q ts os := id rfl
theorem hf22 : cFunc Try.prog 22 = some ⟨26, f22.erase, [(RX.t 4)]⟩ := by kernel_rfl
theorem okf22 : f22.ok = true := by kernel_rfl
def f23r1 : List AI := [⟨none, (.mov 18 (.t 3))⟩, ⟨none, (.mov 2 (.t 18))⟩]
theorem uf23r1 : type_of% @f23r1.eq_1 := id @f23r1.eq_1
def f23b2 : AQ := (.seq (.region f23r1) .ret)
theorem uf23b2 (P ts os Q) : awl P f23b2 Q ts os = awl P (.seq (.region f23r1) .ret) Q ts os := id rfl
def f23r3 : List AI := [⟨none, (.bin 17 .add (.t 5) (.v (.k (.c (.int .i64 1)))))⟩, ⟨none, (.mov 5 (.t 17))⟩]
theorem uf23r3 : type_of% @f23r3.eq_1 := id @f23r3.eq_1
def f23r4 : List AI := [⟨none, (.mov 13 (.t 3))⟩, ⟨none, (.load 14 1 false (.t 4))⟩, ⟨none, (.bslice 15 3 1 [(.int .i64 0)] 1 [(0, (.t 14))])⟩, ⟨none, (.append 16 3 1 8 (.t 13) (.t 15))⟩, ⟨none, (.mov 3 (.t 16))⟩]
theorem uf23r4 : type_of% @f23r4.eq_1 := id @f23r4.eq_1
def f23b5 : AQ := (.cond (.t 12) (.region f23r4) .skip)
theorem uf23b5 (P ts os Q) : awl P f23b5 Q ts os = awl P (.cond (.t 12) (.region f23r4) .skip) Q ts os := id rfl
def f23r6 : List AI := [⟨none, (.faddr 8 3 (.t 1))⟩, ⟨none, (.load 9 1 false (.t 8))⟩, ⟨none, (.mkfn 10 47 [(.t 4)])⟩, ⟨none, (.call (some 11) 46 [(.t 9), (.t 10)])⟩, ⟨none, (.un 12 .not (.t 11))⟩]
theorem uf23r6 : type_of% @f23r6.eq_1 := id @f23r6.eq_1
def f23b7 : AQ := (.seq (.region f23r6) f23b5)
theorem uf23b7 (P ts os Q) : awl P f23b7 Q ts os = awl P (.seq (.region f23r6) f23b5) Q ts os := id rfl
def f23r8 : List AI := [⟨none, (.mov 7 (.t 5))⟩, ⟨none, (.alloc 4 3 [(.int .i64 0)])⟩, ⟨none, (.store 1 (.t 4) (.t 7))⟩]
theorem uf23r8 : type_of% @f23r8.eq_1 := id @f23r8.eq_1
def f23b9 : AQ := (.seq (.region f23r8) f23b7)
theorem uf23b9 (P ts os Q) : awl P f23b9 Q ts os = awl P (.seq (.region f23r8) f23b7) Q ts os := id rfl
def f23b10 : AQ := (.block 1 f23b9)
theorem uf23b10 (P ts os Q) : awl P f23b10 Q ts os = awl P (.block 1 f23b9) Q ts os := id rfl
def f23b11 : AQ := (.seq f23b10 (.region f23r3))
theorem uf23b11 (P ts os Q) : awl P f23b11 Q ts os = awl P (.seq f23b10 (.region f23r3)) Q ts os := id rfl
def f23b12 : AQ := (.cond (.t 6) .skip (.exit 0))
theorem uf23b12 (P ts os Q) : awl P f23b12 Q ts os = awl P (.cond (.t 6) .skip (.exit 0)) Q ts os := id rfl
def f23b13 : AQ := (.seq f23b12 f23b11)
theorem uf23b13 (P ts os Q) : awl P f23b13 Q ts os = awl P (.seq f23b12 f23b11) Q ts os := id rfl
def f23r14 : List AI := [⟨none, (.bin 6 .lss (.t 5) (.v (.k (.c (.int .i64 22)))))⟩]
theorem uf23r14 : type_of% @f23r14.eq_1 := id @f23r14.eq_1
def f23b15 : AQ := (.seq (.region f23r14) f23b13)
theorem uf23b15 (P ts os Q) : awl P f23b15 Q ts os = awl P (.seq (.region f23r14) f23b13) Q ts os := id rfl
def f23l16 : AQ := .loop [1, 3, 5] [1, 3, 16] f23b15
theorem uf23l16 (P ts os Q) : awl P f23l16 Q ts os = awl P (.loop [1, 3, 5] [1, 3, 16] f23b15) Q ts os := id rfl
def f23b17 : AQ := (.block 0 f23l16)
theorem uf23b17 (P ts os Q) : awl P f23b17 Q ts os = awl P (.block 0 f23l16) Q ts os := id rfl
def f23r18 : List AI := [⟨none, (.mov 5 (.v (.k (.c (.int .i64 0)))))⟩]
theorem uf23r18 : type_of% @f23r18.eq_1 := id @f23r18.eq_1
def f23b19 : AQ := (.seq (.region f23r18) f23b17)
theorem uf23b19 (P ts os Q) : awl P f23b19 Q ts os = awl P (.seq (.region f23r18) f23b17) Q ts os := id rfl
def f23b20 : AQ := (.seq f23b19 f23b2)
theorem uf23b20 (P ts os Q) : awl P f23b20 Q ts os = awl P (.seq f23b19 f23b2) Q ts os := id rfl
def f23r21 : List AI := [⟨none, (.nilL 3 3 1)⟩]
theorem uf23r21 : type_of% @f23r21.eq_1 := id @f23r21.eq_1
def f23b22 : AQ := (.seq (.region f23r21) f23b20)
theorem uf23b22 (P ts os Q) : awl P f23b22 Q ts os = awl P (.seq (.region f23r21) f23b20) Q ts os := id rfl
def f23r23 : List AI := [⟨none, (.box 1 25 (.t 0))⟩, ⟨none, (.nilL 2 3 1)⟩]
theorem uf23r23 : type_of% @f23r23.eq_1 := id @f23r23.eq_1
def f23b24 : AQ := (.seq (.region f23r23) f23b22)
theorem uf23b24 (P ts os Q) : awl P f23b24 Q ts os = awl P (.seq (.region f23r23) f23b22) Q ts os := id rfl
def f23 : AQ := f23b24
theorem uf23 (P ts os Q) : awl P f23 Q ts os = awl P f23b24 Q ts os := id rfl
theorem hf23 : cFunc Try.prog 23 = some ⟨19, f23.erase, [(RX.t 2)]⟩ := by kernel_rfl
theorem okf23 : f23.ok = true := by kernel_rfl
def f25r1 : List AI := [⟨none, (.mov 21 (.t 3))⟩, ⟨none, (.call (some 22) 50 [(.t 21)])⟩, ⟨none, (.mov 2 (.t 22))⟩]
theorem uf25r1 : type_of% @f25r1.eq_1 := id @f25r1.eq_1
def f25b2 : AQ := (.seq (.region f25r1) .ret)
theorem uf25b2 (P ts os Q) : awl P f25b2 Q ts os = awl P (.seq (.region f25r1) .ret) Q ts os := id rfl
def f25r3 : List AI := [⟨none, (.mov 19 (.t 3))⟩, ⟨none, (.call (some 20) 49 [(.t 19)])⟩]
theorem uf25r3 : type_of% @f25r3.eq_1 := id @f25r3.eq_1
def f25b4 : AQ := (.seq (.region f25r3) f25b2)
theorem uf25b4 (P ts os Q) : awl P f25b4 Q ts os = awl P (.seq (.region f25r3) f25b2) Q ts os := id rfl
def f25r5 : List AI := [⟨none, (.bin 18 .add (.t 9) (.v (.k (.c (.int .i64 1)))))⟩, ⟨none, (.mov 9 (.t 18))⟩]
theorem uf25r5 : type_of% @f25r5.eq_1 := id @f25r5.eq_1
def f25r6 : List AI := [⟨none, (.mov 13 (.t 3))⟩, ⟨none, (.faddr 14 1 (.t 5))⟩, ⟨none, (.load 15 3 true (.t 14))⟩, ⟨none, (.call (some 16) 35 [(.t 15)])⟩, ⟨none, (.append 17 3 1 8 (.t 13) (.t 16))⟩, ⟨none, (.mov 3 (.t 17))⟩]
theorem uf25r6 : type_of% @f25r6.eq_1 := id @f25r6.eq_1
def f25r7 : List AI := [⟨none, (.iaddr 11 4 (.t 7) (.t 9))⟩, ⟨none, (.load 12 4 true (.t 11))⟩, ⟨none, (.alloc 5 43 [(.int .i64 0), (.int .i64 0), (.int .i64 0), (.list 0 (some true) [])])⟩, ⟨none, (.store 4 (.t 5) (.t 12))⟩]
theorem uf25r7 : type_of% @f25r7.eq_1 := id @f25r7.eq_1
def f25b8 : AQ := (.seq (.region f25r7) (.region f25r6))
theorem uf25b8 (P ts os Q) : awl P f25b8 Q ts os = awl P (.seq (.region f25r7) (.region f25r6)) Q ts os := id rfl
def f25b9 : AQ := (.block 1 f25b8)
theorem uf25b9 (P ts os Q) : awl P f25b9 Q ts os = awl P (.block 1 f25b8) Q ts os := id rfl
def f25b10 : AQ := (.seq f25b9 (.region f25r5))
theorem uf25b10 (P ts os Q) : awl P f25b10 Q ts os = awl P (.seq f25b9 (.region f25r5)) Q ts os := id rfl
def f25b11 : AQ := (.cond (.t 10) .skip (.exit 0))
theorem uf25b11 (P ts os Q) : awl P f25b11 Q ts os = awl P (.cond (.t 10) .skip (.exit 0)) Q ts os := id rfl
def f25b12 : AQ := (.seq f25b11 f25b10)
theorem uf25b12 (P ts os Q) : awl P f25b12 Q ts os = awl P (.seq f25b11 f25b10) Q ts os := id rfl
def f25r13 : List AI := [⟨none, (.bin 10 .lss (.t 9) (.t 8))⟩]
theorem uf25r13 : type_of% @f25r13.eq_1 := id @f25r13.eq_1
def f25b14 : AQ := (.seq (.region f25r13) f25b12)
theorem uf25b14 (P ts os Q) : awl P f25b14 Q ts os = awl P (.seq (.region f25r13) f25b12) Q ts os := id rfl
def f25l15 : AQ := .loop [3, 7, 8, 9] [3, 17] f25b14
theorem uf25l15 (P ts os Q) : awl P f25l15 Q ts os = awl P (.loop [3, 7, 8, 9] [3, 17] f25b14) Q ts os := id rfl
def f25b16 : AQ := (.block 0 f25l15)
theorem uf25b16 (P ts os Q) : awl P f25b16 Q ts os = awl P (.block 0 f25l15) Q ts os := id rfl
def f25r17 : List AI := [⟨none, (.faddr 6 3 (.t 1))⟩, ⟨none, (.load 7 1 false (.t 6))⟩, ⟨none, (.len 8 (.t 7))⟩, ⟨none, (.mov 9 (.v (.k (.c (.int .i64 0)))))⟩]
theorem uf25r17 : type_of% @f25r17.eq_1 := id @f25r17.eq_1
def f25b18 : AQ := (.seq (.region f25r17) f25b16)
theorem uf25b18 (P ts os Q) : awl P f25b18 Q ts os = awl P (.seq (.region f25r17) f25b16) Q ts os := id rfl
def f25b19 : AQ := (.seq f25b18 f25b4)
theorem uf25b19 (P ts os Q) : awl P f25b19 Q ts os = awl P (.seq f25b18 f25b4) Q ts os := id rfl
def f25r20 : List AI := [⟨none, (.nilL 3 3 1)⟩]
theorem uf25r20 : type_of% @f25r20.eq_1 := id @f25r20.eq_1
def f25b21 : AQ := (.seq (.region f25r20) f25b19)
theorem uf25b21 (P ts os Q) : awl P f25b21 Q ts os = awl P (.seq (.region f25r20) f25b19) Q ts os := id rfl
def f25r22 : List AI := [⟨none, (.box 1 25 (.t 0))⟩, ⟨none, (.nilL 2 3 1)⟩]
theorem uf25r22 : type_of% @f25r22.eq_1 := id @f25r22.eq_1
def f25b23 : AQ := (.seq (.region f25r22) f25b21)
theorem uf25b23 (P ts os Q) : awl P f25b23 Q ts os = awl P (.seq (.region f25r22) f25b21) Q ts os := id rfl
def f25 : AQ := f25b23
theorem uf25 (P ts os Q) : awl P f25 Q ts os = awl P f25b23 Q ts os := id rfl
theorem hf25 : cFunc Try.prog 25 = some ⟨23, f25.erase, [(RX.t 2)]⟩ := by kernel_rfl
theorem okf25 : f25.ok = true := by kernel_rfl
def f27r1 : List AI := [⟨none, (.mov 42 (.t 3))⟩, ⟨none, (.call (some 43) 50 [(.t 42)])⟩, ⟨none, (.mov 2 (.t 43))⟩]
theorem uf27r1 : type_of% @f27r1.eq_1 := id @f27r1.eq_1
def f27b2 : AQ := (.seq (.region f27r1) .ret)
theorem uf27b2 (P ts os Q) : awl P f27b2 Q ts os = awl P (.seq (.region f27r1) .ret) Q ts os := id rfl
def f27r3 : List AI := [⟨none, (.mov 40 (.t 3))⟩, ⟨none, (.call (some 41) 49 [(.t 40)])⟩]
theorem uf27r3 : type_of% @f27r3.eq_1 := id @f27r3.eq_1
def f27b4 : AQ := (.seq (.region f27r3) f27b2)
theorem uf27b4 (P ts os Q) : awl P f27b4 Q ts os = awl P (.seq (.region f27r3) f27b2) Q ts os := id rfl
def f27r5 : List AI := [⟨none, (.bin 39 .add (.t 10) (.v (.k (.c (.int .i64 1)))))⟩, ⟨none, (.mov 10 (.t 39))⟩]
theorem uf27r5 : type_of% @f27r5.eq_1 := id @f27r5.eq_1
def f27r6 : List AI := [⟨none, (.mov 34 (.t 3))⟩, ⟨none, (.faddr 35 0 (.t 5))⟩, ⟨none, (.load 36 1 false (.t 35))⟩, ⟨none, (.bslice 37 3 1 [(.int .i64 0)] 1 [(0, (.t 36))])⟩, ⟨none, (.append 38 3 1 8 (.t 34) (.t 37))⟩, ⟨none, (.mov 3 (.t 38))⟩]
theorem uf27r6 : type_of% @f27r6.eq_1 := id @f27r6.eq_1
def f27b7 : AQ := (.cond (.t 33) (.region f27r6) .skip)
theorem uf27b7 (P ts os Q) : awl P f27b7 Q ts os = awl P (.cond (.t 33) (.region f27r6) .skip) Q ts os := id rfl
def f27r8 : List AI := [⟨none, (.mov 27 (.t 6))⟩, ⟨none, (.mov 28 (.t 27))⟩, ⟨(some (28, true)), (.faddr 29 1 (.t 5))⟩, ⟨(some (28, true)), (.load 30 3 true (.t 29))⟩, ⟨(some (28, true)), (.call (some 31) 35 [(.t 30)])⟩, ⟨(some (28, true)), (.call (some 32) 52 [(.t 31), (.v (.k (.c (.fn 53 []))))])⟩, ⟨none, (.pick 33 (.t 28) (.t 32) (.v (.k (.c (.bool false)))))⟩]
theorem uf27r8 : type_of% @f27r8.eq_1 := id @f27r8.eq_1
def f27b9 : AQ := (.seq (.region f27r8) f27b7)
theorem uf27b9 (P ts os Q) : awl P f27b9 Q ts os = awl P (.seq (.region f27r8) f27b7) Q ts os := id rfl
def f27r10 : List AI := [⟨none, (.faddr 14 0 (.t 5))⟩, ⟨none, (.load 15 1 false (.t 14))⟩, ⟨none, (.bin 16 .eql (.t 15) (.v (.k (.c (.int .i64 0)))))⟩, ⟨none, (.mov 17 (.t 16))⟩, ⟨(some (17, false)), (.faddr 18 0 (.t 5))⟩, ⟨(some (17, false)), (.load 19 1 false (.t 18))⟩, ⟨(some (17, false)), (.bin 20 .eql (.t 19) (.v (.k (.c (.int .i64 6)))))⟩, ⟨none, (.pick 21 (.t 17) (.v (.k (.c (.bool true)))) (.t 20))⟩, ⟨none, (.mov 22 (.t 21))⟩, ⟨(some (22, false)), (.faddr 23 0 (.t 5))⟩, ⟨(some (22, false)), (.load 24 1 false (.t 23))⟩, ⟨(some (22, false)), (.bin 25 .eql (.t 24) (.v (.k (.c (.int .i64 7)))))⟩, ⟨none, (.pick 26 (.t 22) (.v (.k (.c (.bool true)))) (.t 25))⟩, ⟨none, (.mov 6 (.t 26))⟩]
theorem uf27r10 : type_of% @f27r10.eq_1 := id @f27r10.eq_1
def f27b11 : AQ := (.seq (.region f27r10) f27b9)
theorem uf27b11 (P ts os Q) : awl P f27b11 Q ts os = awl P (.seq (.region f27r10) f27b9) Q ts os := id rfl
def f27r12 : List AI := [⟨none, (.iaddr 12 4 (.t 8) (.t 10))⟩, ⟨none, (.load 13 4 true (.t 12))⟩, ⟨none, (.alloc 5 43 [(.int .i64 0), (.int .i64 0), (.int .i64 0), (.list 0 (some true) [])])⟩, ⟨none, (.store 4 (.t 5) (.t 13))⟩]
theorem uf27r12 : type_of% @f27r12.eq_1 := id @f27r12.eq_1
def f27b13 : AQ := (.seq (.region f27r12) f27b11)
theorem uf27b13 (P ts os Q) : awl P f27b13 Q ts os = awl P (.seq (.region f27r12) f27b11) Q ts os := id rfl
def f27b14 : AQ := (.block 1 f27b13)
theorem uf27b14 (P ts os Q) : awl P f27b14 Q ts os = awl P (.block 1 f27b13) Q ts os := id rfl
def f27b15 : AQ := (.seq f27b14 (.region f27r5))
theorem uf27b15 (P ts os Q) : awl P f27b15 Q ts os = awl P (.seq f27b14 (.region f27r5)) Q ts os := id rfl
def f27b16 : AQ := (.cond (.t 11) .skip (.exit 0))
theorem uf27b16 (P ts os Q) : awl P f27b16 Q ts os = awl P (.cond (.t 11) .skip (.exit 0)) Q ts os := id rfl
def f27b17 : AQ := (.seq f27b16 f27b15)
theorem uf27b17 (P ts os Q) : awl P f27b17 Q ts os = awl P (.seq f27b16 f27b15) Q ts os := id rfl
def f27r18 : List AI := [⟨none, (.bin 11 .lss (.t 10) (.t 9))⟩]
theorem uf27r18 : type_of% @f27r18.eq_1 := id @f27r18.eq_1
def f27b19 : AQ := (.seq (.region f27r18) f27b17)
theorem uf27b19 (P ts os Q) : awl P f27b19 Q ts os = awl P (.seq (.region f27r18) f27b17) Q ts os := id rfl
def f27l20 : AQ := .loop [3, 8, 9, 10] [3, 38] f27b19
theorem uf27l20 (P ts os Q) : awl P f27l20 Q ts os = awl P (.loop [3, 8, 9, 10] [3, 38] f27b19) Q ts os := id rfl
def f27b21 : AQ := (.block 0 f27l20)
theorem uf27b21 (P ts os Q) : awl P f27b21 Q ts os = awl P (.block 0 f27l20) Q ts os := id rfl
def f27r22 : List AI := [⟨none, (.faddr 7 3 (.t 1))⟩, ⟨none, (.load 8 1 false (.t 7))⟩, ⟨none, (.len 9 (.t 8))⟩, ⟨none, (.mov 10 (.v (.k (.c (.int .i64 0)))))⟩]
theorem uf27r22 : type_of% @f27r22.eq_1 := id @f27r22.eq_1
def f27b23 : AQ := (.seq (.region f27r22) f27b21)
theorem uf27b23 (P ts os Q) : awl P f27b23 Q ts os = awl P (.seq (.region f27r22) f27b21) Q ts os := id rfl
def f27b24 : AQ := (.seq f27b23 f27b4)
theorem uf27b24 (P ts os Q) : awl P f27b24 Q ts os = awl P (.seq f27b23 f27b4) Q ts os := id rfl
def f27r25 : List AI := [⟨none, (.nilL 3 3 1)⟩]
theorem uf27r25 : type_of% @f27r25.eq_1 := id @f27r25.eq_1
def f27b26 : AQ := (.seq (.region f27r25) f27b24)
theorem uf27b26 (P ts os Q) : awl P f27b26 Q ts os = awl P (.seq (.region f27r25) f27b24) Q ts os := id rfl
def f27r27 : List AI := [⟨none, (.box 1 25 (.t 0))⟩, ⟨none, (.nilL 2 3 1)⟩]
theorem uf27r27 : type_of% @f27r27.eq_1 := id @f27r27.eq_1
def f27b28 : AQ := (.seq (.region f27r27) f27b26)
theorem uf27b28 (P ts os Q) : awl P f27b28 Q ts os = awl P (.seq (.region f27r27) f27b26) Q ts os := id rfl
def f27 : AQ := f27b28
theorem uf27 (P ts os Q) : awl P f27 Q ts os = awl P f27b28 Q ts os := id rfl
theorem hf27 : cFunc Try.prog 27 = some ⟨44, f27.erase, [(RX.t 2)]⟩ := by kernel_rfl
theorem okf27 : f27.ok = true := by kernel_rfl
def f30r1 : List AI := [⟨none, (.load 3 3 true (.t 1))⟩, ⟨none, (.call (some 4) 58 [(.t 3), (.v (.k (.c (.int .i64 100)))), (.v (.k (.c (.int .i64 20))))])⟩, ⟨none, (.bin 5 .geq (.t 4) (.v (.k (.c (.int .i64 0)))))⟩, ⟨none, (.mov 2 (.t 5))⟩]
theorem uf30r1 : type_of% @f30r1.eq_1 := id @f30r1.eq_1
def f30b2 : AQ := (.seq (.region f30r1) .ret)
theorem uf30b2 (P ts os Q) : awl P f30b2 Q ts os = awl P (.seq (.region f30r1) .ret) Q ts os := id rfl
def f30r3 : List AI := [⟨none, (.box 1 41 (.t 0))⟩, ⟨none, (.mov 2 (.v (.k (.c (.bool false)))))⟩]
theorem uf30r3 : type_of% @f30r3.eq_1 := id @f30r3.eq_1
def f30b4 : AQ := (.seq (.region f30r3) f30b2)
theorem uf30b4 (P ts os Q) : awl P f30b4 Q ts os = awl P (.seq (.region f30r3) f30b2) Q ts os := id rfl
def f30 : AQ := f30b4
theorem uf30 (P ts os Q) : awl P f30 Q ts os = awl P f30b4 Q ts os := id rfl
theorem hf30 : cFunc Try.prog 30 = some ⟨6, f30.erase, [(RX.t 2)]⟩ := by kernel_rfl
theorem okf30 : f30.ok = true := by kernel_rfl
def f31r1 : List AI := [⟨none, (.load 7 3 true (.t 1))⟩, ⟨none, (.call (some 8) 60 [(.t 7)])⟩, ⟨none, (.extr 9 (.t 8) 0)⟩, ⟨none, (.extr 10 (.t 8) 1)⟩, ⟨none, (.mov 2 (.t 9))⟩, ⟨none, (.mov 3 (.t 10))⟩]
theorem uf31r1 : type_of% @f31r1.eq_1 := id @f31r1.eq_1
def f31b2 : AQ := (.seq (.region f31r1) .ret)
theorem uf31b2 (P ts os Q) : awl P f31b2 Q ts os = awl P (.seq (.region f31r1) .ret) Q ts os := id rfl
def f31r3 : List AI := [⟨none, (.mov 2 (.v (.k (.c (.int .i64 0)))))⟩, ⟨none, (.mov 3 (.v (.k (.c (.int .i64 6)))))⟩]
theorem uf31r3 : type_of% @f31r3.eq_1 := id @f31r3.eq_1
def f31b4 : AQ := (.seq (.region f31r3) .ret)
theorem uf31b4 (P ts os Q) : awl P f31b4 Q ts os = awl P (.seq (.region f31r3) .ret) Q ts os := id rfl
def f31b5 : AQ := (.cond (.t 6) f31b4 .skip)
theorem uf31b5 (P ts os Q) : awl P f31b5 Q ts os = awl P (.cond (.t 6) f31b4 .skip) Q ts os := id rfl
def f31r6 : List AI := [⟨none, (.load 4 3 true (.t 1))⟩, ⟨none, (.call (some 5) 59 [(.t 4), (.v (.k (.c (.int .i64 1))))])⟩, ⟨none, (.bin 6 .gtr (.t 5) (.v (.k (.c (.int .i64 60)))))⟩]
theorem uf31r6 : type_of% @f31r6.eq_1 := id @f31r6.eq_1
def f31b7 : AQ := (.seq (.region f31r6) f31b5)
theorem uf31b7 (P ts os Q) : awl P f31b7 Q ts os = awl P (.seq (.region f31r6) f31b5) Q ts os := id rfl
def f31b8 : AQ := (.seq f31b7 f31b2)
theorem uf31b8 (P ts os Q) : awl P f31b8 Q ts os = awl P (.seq f31b7 f31b2) Q ts os := id rfl
def f31r9 : List AI := [⟨none, (.box 1 41 (.t 0))⟩, ⟨none, (.mov 2 (.v (.k (.c (.int .i64 0)))))⟩, ⟨none, (.mov 3 (.v (.k (.c (.int .i64 0)))))⟩]
theorem uf31r9 : type_of% @f31r9.eq_1 := id @f31r9.eq_1
def f31b10 : AQ := (.seq (.region f31r9) f31b8)
theorem uf31b10 (P ts os Q) : awl P f31b10 Q ts os = awl P (.seq (.region f31r9) f31b8) Q ts os := id rfl
def f31 : AQ := f31b10
theorem uf31 (P ts os Q) : awl P f31 Q ts os = awl P f31b10 Q ts os := id rfl
theorem hf31 : cFunc Try.prog 31 = some ⟨11, f31.erase, [(RX.t 2), (RX.t 3)]⟩ := by kernel_rfl
theorem okf31 : f31.ok = true := by kernel_rfl
def f33r1 : List AI := [⟨none, (.mov 2 (.v (.k (.c (.int .i64 1)))))⟩, ⟨none, (.mov 3 (.v (.k (.c (.bool true)))))⟩]
theorem uf33r1 : type_of% @f33r1.eq_1 := id @f33r1.eq_1
def f33b2 : AQ := (.seq (.region f33r1) .ret)
theorem uf33b2 (P ts os Q) : awl P f33b2 Q ts os = awl P (.seq (.region f33r1) .ret) Q ts os := id rfl
def f33r3 : List AI := [⟨none, (.mov 2 (.v (.k (.c (.int .i64 0)))))⟩, ⟨none, (.mov 3 (.v (.k (.c (.bool false)))))⟩]
theorem uf33r3 : type_of% @f33r3.eq_1 := id @f33r3.eq_1
def f33b4 : AQ := (.seq (.region f33r3) .ret)
theorem uf33b4 (P ts os Q) : awl P f33b4 Q ts os = awl P (.seq (.region f33r3) .ret) Q ts os := id rfl
def f33r5 : List AI := [⟨none, (.mov 2 (.v (.k (.c (.int .i64 0)))))⟩, ⟨none, (.mov 3 (.v (.k (.c (.bool true)))))⟩]
theorem uf33r5 : type_of% @f33r5.eq_1 := id @f33r5.eq_1
def f33b6 : AQ := (.seq (.region f33r5) .ret)
theorem uf33b6 (P ts os Q) : awl P f33b6 Q ts os = awl P (.seq (.region f33r5) .ret) Q ts os := id rfl
def f33b7 : AQ := (.cond (.t 11) f33b6 .skip)
theorem uf33b7 (P ts os Q) : awl P f33b7 Q ts os = awl P (.cond (.t 11) f33b6 .skip) Q ts os := id rfl
def f33r8 : List AI := [⟨none, (.mov 12 (.t 0))⟩, ⟨none, (.bin 13 .lss (.t 12) (.v (.k (.c (.int .i64 7)))))⟩, ⟨none, (.mov 11 (.t 13))⟩]
theorem uf33r8 : type_of% @f33r8.eq_1 := id @f33r8.eq_1
def f33b9 : AQ := (.seq (.region f33r8) f33b7)
theorem uf33b9 (P ts os Q) : awl P f33b9 Q ts os = awl P (.seq (.region f33r8) f33b7) Q ts os := id rfl
def f33b10 : AQ := (.cond (.t 4) f33b4 f33b9)
theorem uf33b10 (P ts os Q) : awl P f33b10 Q ts os = awl P (.cond (.t 4) f33b4 f33b9) Q ts os := id rfl
def f33r11 : List AI := [⟨none, (.mov 5 (.t 0))⟩, ⟨none, (.bin 6 .lss (.t 5) (.v (.k (.c (.int .i64 0)))))⟩, ⟨none, (.mov 7 (.t 6))⟩, ⟨(some (7, false)), (.mov 8 (.t 0))⟩, ⟨(some (7, false)), (.bin 9 .gtr (.t 8) (.v (.k (.c (.int .i64 19)))))⟩, ⟨none, (.pick 10 (.t 7) (.v (.k (.c (.bool true)))) (.t 9))⟩, ⟨none, (.mov 4 (.t 10))⟩]
theorem uf33r11 : type_of% @f33r11.eq_1 := id @f33r11.eq_1
def f33b12 : AQ := (.seq (.region f33r11) f33b10)
theorem uf33b12 (P ts os Q) : awl P f33b12 Q ts os = awl P (.seq (.region f33r11) f33b10) Q ts os := id rfl
def f33b13 : AQ := (.block 0 f33b12)
theorem uf33b13 (P ts os Q) : awl P f33b13 Q ts os = awl P (.block 0 f33b12) Q ts os := id rfl
def f33b14 : AQ := (.seq f33b13 f33b2)
theorem uf33b14 (P ts os Q) : awl P f33b14 Q ts os = awl P (.seq f33b13 f33b2) Q ts os := id rfl
def f33r15 : List AI := [⟨none, (.mov 2 (.v (.k (.c (.int .i64 0)))))⟩, ⟨none, (.mov 3 (.v (.k (.c (.bool false)))))⟩]
theorem uf33r15 : type_of% @f33r15.eq_1 := id @f33r15.eq_1
def f33b16 : AQ := (.seq (.region f33r15) f33b14)
theorem uf33b16 (P ts os Q) : awl P f33b16 Q ts os = awl P (.seq (.region f33r15) f33b14) Q ts os := id rfl
def f33 : AQ := f33b16
theorem uf33 (P ts os Q) : awl P f33 Q ts os = awl P f33b16 Q ts os := id rfl
theorem hf33 : cFunc Try.prog 33 = some ⟨14, f33.erase, [(RX.t 2), (RX.t 3)]⟩ := by kernel_rfl
theorem okf33 : f33.ok = true := by kernel_rfl
def f35r1 : List AI := [⟨none, (.load 20 1 false (.t 5))⟩, ⟨none, (.call (some 21) 50 [(.t 20)])⟩, ⟨none, (.mov 2 (.t 21))⟩]
theorem uf35r1 : type_of% @f35r1.eq_1 := id @f35r1.eq_1
def f35b2 : AQ := (.seq (.region f35r1) .ret)
theorem uf35b2 (P ts os Q) : awl P f35b2 Q ts os = awl P (.seq (.region f35r1) .ret) Q ts os := id rfl
def f35r3 : List AI := [⟨none, (.load 18 1 false (.t 5))⟩, ⟨none, (.call (some 19) 49 [(.t 18)])⟩]
theorem uf35r3 : type_of% @f35r3.eq_1 := id @f35r3.eq_1
def f35b4 : AQ := (.seq (.region f35r3) f35b2)
theorem uf35b4 (P ts os Q) : awl P f35b4 Q ts os = awl P (.seq (.region f35r3) f35b2) Q ts os := id rfl
def f35r5 : List AI := [⟨none, (.load 15 1 false (.t 6))⟩, ⟨none, (.load 16 3 true (.t 1))⟩, ⟨none, (.callv (some 17) (.t 15) [(.t 16)])⟩]
theorem uf35r5 : type_of% @f35r5.eq_1 := id @f35r5.eq_1
def f35b6 : AQ := (.swap 6 1006 (.swap 5 1005 (.seq (.region f35r5) f35b4)))
theorem uf35b6 (P ts os Q) : awl P f35b6 Q ts os = awl P (.swap 6 1006 (.swap 5 1005 (.seq (.region f35r5) f35b4))) Q ts os := id rfl
def f35r7 : List AI := [⟨none, (.mkfn 14 62 [(.t 5), (.t 6)])⟩, ⟨none, (.store 1 (.t 6) (.t 14))⟩]
theorem uf35r7 : type_of% @f35r7.eq_1 := id @f35r7.eq_1
def f35b8 : AQ := (.seq (.region f35r7) f35b6)
theorem uf35b8 (P ts os Q) : awl P f35b8 Q ts os = awl P (.seq (.region f35r7) f35b6) Q ts os := id rfl
def f35r9 : List AI := [⟨none, (.alloc 6 80 [.nilf])⟩]
theorem uf35r9 : type_of% @f35r9.eq_1 := id @f35r9.eq_1
def f35b10 : AQ := (.seq (.region f35r9) f35b8)
theorem uf35b10 (P ts os Q) : awl P f35b10 Q ts os = awl P (.seq (.region f35r9) f35b8) Q ts os := id rfl
def f35r11 : List AI := [⟨none, (.alloc 5 36 [(.list 0 (some true) [])])⟩]
theorem uf35r11 : type_of% @f35r11.eq_1 := id @f35r11.eq_1
def f35b12 : AQ := (.seq (.region f35r11) (.own 5 1000 3 1 f35b10))
theorem uf35b12 (P ts os Q) : awl P f35b12 Q ts os = awl P (.seq (.region f35r11) (.own 5 1000 3 1 f35b10)) Q ts os := id rfl
def f35r13 : List AI := [⟨none, (.nilL 2 3 1)⟩]
theorem uf35r13 : type_of% @f35r13.eq_1 := id @f35r13.eq_1
def f35b14 : AQ := (.seq (.region f35r13) .ret)
theorem uf35b14 (P ts os Q) : awl P f35b14 Q ts os = awl P (.seq (.region f35r13) .ret) Q ts os := id rfl
def f35b15 : AQ := (.cond (.t 13) f35b14 .skip)
theorem uf35b15 (P ts os Q) : awl P f35b15 Q ts os = awl P (.cond (.t 13) f35b14 .skip) Q ts os := id rfl
def f35r16 : List AI := [⟨none, (.mov 12 (.t 4))⟩, ⟨none, (.bin 13 .neq (.t 12) (.v (.k (.c (.int .i64 0)))))⟩]
theorem uf35r16 : type_of% @f35r16.eq_1 := id @f35r16.eq_1
def f35b17 : AQ := (.seq (.region f35r16) f35b15)
theorem uf35b17 (P ts os Q) : awl P f35b17 Q ts os = awl P (.seq (.region f35r16) f35b15) Q ts os := id rfl
def f35r18 : List AI := [⟨none, (.load 8 3 true (.t 1))⟩, ⟨none, (.call (some 9) 31 [(.t 8)])⟩, ⟨none, (.mov 7 (.t 9))⟩, ⟨none, (.extr 10 (.t 7) 0)⟩, ⟨none, (.extr 11 (.t 7) 1)⟩, ⟨none, (.mov 3 (.t 10))⟩, ⟨none, (.mov 4 (.t 11))⟩]
theorem uf35r18 : type_of% @f35r18.eq_1 := id @f35r18.eq_1
def f35b19 : AQ := (.seq (.region f35r18) f35b17)
theorem uf35b19 (P ts os Q) : awl P f35b19 Q ts os = awl P (.seq (.region f35r18) f35b17) Q ts os := id rfl
def f35b20 : AQ := (.seq f35b19 f35b12)
theorem uf35b20 (P ts os Q) : awl P f35b20 Q ts os = awl P (.seq f35b19 f35b12) Q ts os := id rfl
def f35r21 : List AI := [⟨none, (.box 1 41 (.t 0))⟩, ⟨none, (.nilL 2 3 1)⟩]
theorem uf35r21 : type_of% @f35r21.eq_1 := id @f35r21.eq_1
def f35b22 : AQ := (.seq (.region f35r21) f35b20)
theorem uf35b22 (P ts os Q) : awl P f35b22 Q ts os = awl P (.seq (.region f35r21) f35b20) Q ts os := id rfl
def f35 : AQ := f35b22
theorem uf35 (P ts os Q) : awl P f35 Q ts os = awl P f35b22 Q ts os := id rfl
theorem hf35 : cFunc Try.prog 35 = some ⟨22, f35.erase, [(RX.t 2)]⟩ := by kernel_rfl
theorem okf35 : f35.ok = true := by kernel_rfl
def f37r1 : List AI := [⟨none, (.load 24 2 true (.t 7))⟩, ⟨none, (.store 2 (.t 4) (.t 24))⟩]
theorem uf37r1 : type_of% @f37r1.eq_1 := id @f37r1.eq_1
def f37b2 : AQ := (.seq (.region f37r1) .ret)
theorem uf37b2 (P ts os Q) : awl P f37b2 Q ts os = awl P (.seq (.region f37r1) .ret) Q ts os := id rfl
def f37r3 : List AI := [⟨none, (.mov 18 (.t 1))⟩, ⟨none, (.build 19 [(.list 0 (some true) [])] [(0, (1, (.t 18)))])⟩, ⟨none, (.load 20 3 true (.t 2))⟩, ⟨none, (.call (some 21) 64 [(.t 19), (.t 20)])⟩, ⟨none, (.mov 17 (.t 21))⟩, ⟨none, (.extr 22 (.t 17) 0)⟩, ⟨none, (.extr 23 (.t 17) 1)⟩, ⟨none, (.alloc 7 53 [(.bool false), (.int .i64 0)])⟩, ⟨none, (.store 2 (.t 7) (.t 22))⟩, ⟨none, (.mov 8 (.t 23))⟩]
theorem uf37r3 : type_of% @f37r3.eq_1 := id @f37r3.eq_1
def f37b4 : AQ := (.seq (.region f37r3) f37b2)
theorem uf37b4 (P ts os Q) : awl P f37b4 Q ts os = awl P (.seq (.region f37r3) f37b2) Q ts os := id rfl
def f37r5 : List AI := [⟨none, (.build 16 [(.bool false), (.int .i64 0)] [])⟩, ⟨none, (.store 2 (.t 4) (.t 16))⟩]
theorem uf37r5 : type_of% @f37r5.eq_1 := id @f37r5.eq_1
def f37b6 : AQ := (.seq (.region f37r5) .ret)
theorem uf37b6 (P ts os Q) : awl P f37b6 Q ts os = awl P (.seq (.region f37r5) .ret) Q ts os := id rfl
def f37b7 : AQ := (.cond (.t 15) f37b6 .skip)
theorem uf37b7 (P ts os Q) : awl P f37b7 Q ts os = awl P (.cond (.t 15) f37b6 .skip) Q ts os := id rfl
def f37r8 : List AI := [⟨none, (.mov 14 (.t 6))⟩, ⟨none, (.bin 15 .neq (.t 14) (.v (.k (.c (.int .i64 0)))))⟩]
theorem uf37r8 : type_of% @f37r8.eq_1 := id @f37r8.eq_1
def f37b9 : AQ := (.seq (.region f37r8) f37b7)
theorem uf37b9 (P ts os Q) : awl P f37b9 Q ts os = awl P (.seq (.region f37r8) f37b7) Q ts os := id rfl
def f37r10 : List AI := [⟨none, (.load 10 3 true (.t 2))⟩, ⟨none, (.call (some 11) 31 [(.t 10)])⟩, ⟨none, (.mov 9 (.t 11))⟩, ⟨none, (.extr 12 (.t 9) 0)⟩, ⟨none, (.extr 13 (.t 9) 1)⟩, ⟨none, (.mov 5 (.t 12))⟩, ⟨none, (.mov 6 (.t 13))⟩]
theorem uf37r10 : type_of% @f37r10.eq_1 := id @f37r10.eq_1
def f37b11 : AQ := (.seq (.region f37r10) f37b9)
theorem uf37b11 (P ts os Q) : awl P f37b11 Q ts os = awl P (.seq (.region f37r10) f37b9) Q ts os := id rfl
def f37b12 : AQ := (.seq f37b11 f37b4)
theorem uf37b12 (P ts os Q) : awl P f37b12 Q ts os = awl P (.seq f37b11 f37b4) Q ts os := id rfl
def f37r13 : List AI := [⟨none, (.box 2 41 (.t 0))⟩, ⟨none, (.alloc 4 53 [(.bool false), (.int .i64 0)])⟩]
theorem uf37r13 : type_of% @f37r13.eq_1 := id @f37r13.eq_1
def f37b14 : AQ := (.seq (.region f37r13) f37b12)
theorem uf37b14 (P ts os Q) : awl P f37b14 Q ts os = awl P (.seq (.region f37r13) f37b12) Q ts os := id rfl
def f37 : AQ := f37b14
theorem uf37 (P ts os Q) : awl P f37 Q ts os = awl P f37b14 Q ts os := id rfl
theorem hf37 : cFunc Try.prog 37 = some ⟨25, f37.erase, [(RX.cell 4 2 true)]⟩ := by kernel_rfl
theorem okf37 : f37.ok = true := by kernel_rfl
def f43r1 : List AI := [⟨none, (.mov 24 (.t 3))⟩, ⟨none, (.mov 2 (.t 24))⟩]
theorem uf43r1 : type_of% @f43r1.eq_1 := id @f43r1.eq_1
def f43b2 : AQ := (.seq (.region f43r1) .ret)
theorem uf43b2 (P ts os Q) : awl P f43b2 Q ts os = awl P (.seq (.region f43r1) .ret) Q ts os := id rfl
def f43r3 : List AI := [⟨none, (.mov 9 (.t 4))⟩, ⟨none, (.bin 10 .add (.t 9) (.v (.k (.c (.int .i64 1)))))⟩, ⟨none, (.mov 4 (.t 10))⟩]
theorem uf43r3 : type_of% @f43r3.eq_1 := id @f43r3.eq_1
def f43r4 : List AI := [⟨none, (.mov 19 (.t 3))⟩, ⟨none, (.mov 20 (.t 5))⟩, ⟨none, (.build 21 [(.bool false), (.int .i64 0)] [(0, (1, (.v (.k (.c (.bool true)))))), (1, (1, (.t 20)))])⟩, ⟨none, (.bslice 22 53 2 [(.bool false), (.int .i64 0)] 1 [(0, (.t 21))])⟩, ⟨none, (.append 23 53 2 16 (.t 19) (.t 22))⟩, ⟨none, (.mov 3 (.t 23))⟩]
theorem uf43r4 : type_of% @f43r4.eq_1 := id @f43r4.eq_1
def f43r5 : List AI := [⟨none, (.mov 15 (.t 0))⟩, ⟨none, (.mov 16 (.t 4))⟩, ⟨none, (.iaddr 17 1 (.t 15) (.t 16))⟩, ⟨none, (.load 18 1 false (.t 17))⟩, ⟨none, (.mov 5 (.t 18))⟩]
theorem uf43r5 : type_of% @f43r5.eq_1 := id @f43r5.eq_1
def f43b6 : AQ := (.cond (.t 14) (.region f43r5) .skip)
theorem uf43b6 (P ts os Q) : awl P f43b6 Q ts os = awl P (.cond (.t 14) (.region f43r5) .skip) Q ts os := id rfl
def f43r7 : List AI := [⟨none, (.mov 11 (.t 4))⟩, ⟨none, (.mov 12 (.t 0))⟩, ⟨none, (.len 13 (.t 12))⟩, ⟨none, (.bin 14 .lss (.t 11) (.t 13))⟩]
theorem uf43r7 : type_of% @f43r7.eq_1 := id @f43r7.eq_1
def f43b8 : AQ := (.seq (.region f43r7) f43b6)
theorem uf43b8 (P ts os Q) : awl P f43b8 Q ts os = awl P (.seq (.region f43r7) f43b6) Q ts os := id rfl
def f43b9 : AQ := (.seq f43b8 (.region f43r4))
theorem uf43b9 (P ts os Q) : awl P f43b9 Q ts os = awl P (.seq f43b8 (.region f43r4)) Q ts os := id rfl
def f43r10 : List AI := [⟨none, (.mov 5 (.v (.k (.c (.int .i64 0)))))⟩]
theorem uf43r10 : type_of% @f43r10.eq_1 := id @f43r10.eq_1
def f43b11 : AQ := (.seq (.region f43r10) f43b9)
theorem uf43b11 (P ts os Q) : awl P f43b11 Q ts os = awl P (.seq (.region f43r10) f43b9) Q ts os := id rfl
def f43b12 : AQ := (.block 1 f43b11)
theorem uf43b12 (P ts os Q) : awl P f43b12 Q ts os = awl P (.block 1 f43b11) Q ts os := id rfl
def f43b13 : AQ := (.seq f43b12 (.region f43r3))
theorem uf43b13 (P ts os Q) : awl P f43b13 Q ts os = awl P (.seq f43b12 (.region f43r3)) Q ts os := id rfl
def f43b14 : AQ := (.cond (.t 8) .skip (.exit 0))
theorem uf43b14 (P ts os Q) : awl P f43b14 Q ts os = awl P (.cond (.t 8) .skip (.exit 0)) Q ts os := id rfl
def f43r15 : List AI := [⟨none, (.mov 7 (.t 4))⟩, ⟨none, (.bin 8 .lss (.t 7) (.v (.k (.c (.int .i64 20)))))⟩]
theorem uf43r15 : type_of% @f43r15.eq_1 := id @f43r15.eq_1
def f43b16 : AQ := (.seq (.region f43r15) f43b14)
theorem uf43b16 (P ts os Q) : awl P f43b16 Q ts os = awl P (.seq (.region f43r15) f43b14) Q ts os := id rfl
def f43b17 : AQ := (.seq f43b16 f43b13)
theorem uf43b17 (P ts os Q) : awl P f43b17 Q ts os = awl P (.seq f43b16 f43b13) Q ts os := id rfl
def f43l18 : AQ := .loop [0, 3, 4] [6, 23] f43b17
theorem uf43l18 (P ts os Q) : awl P f43l18 Q ts os = awl P (.loop [0, 3, 4] [6, 23] f43b17) Q ts os := id rfl
def f43b19 : AQ := (.block 0 f43l18)
theorem uf43b19 (P ts os Q) : awl P f43b19 Q ts os = awl P (.block 0 f43l18) Q ts os := id rfl
def f43r20 : List AI := [⟨none, (.mov 4 (.v (.k (.c (.int .i64 0)))))⟩]
theorem uf43r20 : type_of% @f43r20.eq_1 := id @f43r20.eq_1
def f43b21 : AQ := (.seq (.region f43r20) f43b19)
theorem uf43b21 (P ts os Q) : awl P f43b21 Q ts os = awl P (.seq (.region f43r20) f43b19) Q ts os := id rfl
def f43b22 : AQ := (.seq f43b21 f43b2)
theorem uf43b22 (P ts os Q) : awl P f43b22 Q ts os = awl P (.seq f43b21 f43b2) Q ts os := id rfl
def f43r23 : List AI := [⟨none, (.bslice 6 53 2 [(.bool false), (.int .i64 0)] 0 [])⟩, ⟨none, (.mov 3 (.t 6))⟩]
theorem uf43r23 : type_of% @f43r23.eq_1 := id @f43r23.eq_1
def f43b24 : AQ := (.seq (.region f43r23) f43b22)
theorem uf43b24 (P ts os Q) : awl P f43b24 Q ts os = awl P (.seq (.region f43r23) f43b22) Q ts os := id rfl
def f43r25 : List AI := [⟨none, (.nilL 2 53 2)⟩]
theorem uf43r25 : type_of% @f43r25.eq_1 := id @f43r25.eq_1
def f43b26 : AQ := (.seq (.region f43r25) f43b24)
theorem uf43b26 (P ts os Q) : awl P f43b26 Q ts os = awl P (.seq (.region f43r25) f43b24) Q ts os := id rfl
def f43 : AQ := f43b26
theorem uf43 (P ts os Q) : awl P f43 Q ts os = awl P f43b26 Q ts os := id rfl
theorem hf43 : cFunc Try.prog 43 = some ⟨25, f43.erase, [(RX.t 2)]⟩ := by kernel_rfl
theorem okf43 : f43.ok = true := by kernel_rfl
def f44r1 : List AI := [⟨none, (.load 20 22 true (.t 1))⟩, ⟨none, (.store 22 (.t 0) (.t 20))⟩]
theorem uf44r1 : type_of% @f44r1.eq_1 := id @f44r1.eq_1
def f44b2 : AQ := (.seq (.region f44r1) .ret)
theorem uf44b2 (P ts os Q) : awl P f44b2 Q ts os = awl P (.seq (.region f44r1) .ret) Q ts os := id rfl
def f44r3 : List AI := [⟨none, (.bin 19 .add (.t 13) (.v (.k (.c (.int .i64 1)))))⟩, ⟨none, (.mov 13 (.t 19))⟩]
theorem uf44r3 : type_of% @f44r3.eq_1 := id @f44r3.eq_1
def f44r4 : List AI := [⟨none, (.mov 17 (.t 4))⟩, ⟨none, (.iaddrA 18 1 22 (.t 1) (.t 17))⟩, ⟨none, (.store 1 (.t 18) (.v (.k (.c (.int .i64 0)))))⟩]
theorem uf44r4 : type_of% @f44r4.eq_1 := id @f44r4.eq_1
def f44r5 : List AI := [⟨none, (.iaddr 15 1 (.t 11) (.t 13))⟩, ⟨none, (.load 16 1 false (.t 15))⟩, ⟨none, (.mov 4 (.t 16))⟩]
theorem uf44r5 : type_of% @f44r5.eq_1 := id @f44r5.eq_1
def f44b6 : AQ := (.seq (.region f44r5) (.region f44r4))
theorem uf44b6 (P ts os Q) : awl P f44b6 Q ts os = awl P (.seq (.region f44r5) (.region f44r4)) Q ts os := id rfl
def f44b7 : AQ := (.block 3 f44b6)
theorem uf44b7 (P ts os Q) : awl P f44b7 Q ts os = awl P (.block 3 f44b6) Q ts os := id rfl
def f44b8 : AQ := (.seq f44b7 (.region f44r3))
theorem uf44b8 (P ts os Q) : awl P f44b8 Q ts os = awl P (.seq f44b7 (.region f44r3)) Q ts os := id rfl
def f44b9 : AQ := (.cond (.t 14) .skip (.exit 2))
theorem uf44b9 (P ts os Q) : awl P f44b9 Q ts os = awl P (.cond (.t 14) .skip (.exit 2)) Q ts os := id rfl
def f44b10 : AQ := (.seq f44b9 f44b8)
theorem uf44b10 (P ts os Q) : awl P f44b10 Q ts os = awl P (.seq f44b9 f44b8) Q ts os := id rfl
def f44r11 : List AI := [⟨none, (.bin 14 .lss (.t 13) (.t 12))⟩]
theorem uf44r11 : type_of% @f44r11.eq_1 := id @f44r11.eq_1
def f44b12 : AQ := (.seq (.region f44r11) f44b10)
theorem uf44b12 (P ts os Q) : awl P f44b12 Q ts os = awl P (.seq (.region f44r11) f44b10) Q ts os := id rfl
def f44l13 : AQ := .loop [0, 1, 11, 12, 13] [0, 1, 11] f44b12
theorem uf44l13 (P ts os Q) : awl P f44l13 Q ts os = awl P (.loop [0, 1, 11, 12, 13] [0, 1, 11] f44b12) Q ts os := id rfl
def f44b14 : AQ := (.block 2 f44l13)
theorem uf44b14 (P ts os Q) : awl P f44b14 Q ts os = awl P (.block 2 f44l13) Q ts os := id rfl
def f44r15 : List AI := [⟨none, (.bslice 11 3 1 [(.int .i64 0)] 10 [(0, (.v (.k (.c (.int .i64 6))))), (1, (.v (.k (.c (.int .i64 7))))), (2, (.v (.k (.c (.int .i64 10))))), (3, (.v (.k (.c (.int .i64 12))))), (4, (.v (.k (.c (.int .i64 13))))), (5, (.v (.k (.c (.int .i64 14))))), (6, (.v (.k (.c (.int .i64 15))))), (7, (.v (.k (.c (.int .i64 16))))), (8, (.v (.k (.c (.int .i64 20))))), (9, (.v (.k (.c (.int .i64 21)))))])⟩, ⟨none, (.len 12 (.t 11))⟩, ⟨none, (.mov 13 (.v (.k (.c (.int .i64 0)))))⟩]
theorem uf44r15 : type_of% @f44r15.eq_1 := id @f44r15.eq_1
def f44b16 : AQ := (.seq (.region f44r15) f44b14)
theorem uf44b16 (P ts os Q) : awl P f44b16 Q ts os = awl P (.seq (.region f44r15) f44b14) Q ts os := id rfl
def f44b17 : AQ := (.seq f44b16 f44b2)
theorem uf44b17 (P ts os Q) : awl P f44b17 Q ts os = awl P (.seq f44b16 f44b2) Q ts os := id rfl
def f44r18 : List AI := [⟨none, (.bin 10 .add (.t 5) (.v (.k (.c (.int .i64 1)))))⟩, ⟨none, (.mov 5 (.t 10))⟩]
theorem uf44r18 : type_of% @f44r18.eq_1 := id @f44r18.eq_1
def f44r19 : List AI := [⟨none, (.mov 8 (.t 2))⟩, ⟨none, (.iaddrA 9 1 22 (.t 1) (.t 8))⟩, ⟨none, (.store 1 (.t 9) (.v (.k (.c (.int .i64 1)))))⟩]
theorem uf44r19 : type_of% @f44r19.eq_1 := id @f44r19.eq_1
def f44r20 : List AI := [⟨none, (.mov 7 (.t 5))⟩, ⟨none, (.mov 2 (.t 7))⟩]
theorem uf44r20 : type_of% @f44r20.eq_1 := id @f44r20.eq_1
def f44b21 : AQ := (.seq (.region f44r20) (.region f44r19))
theorem uf44b21 (P ts os Q) : awl P f44b21 Q ts os = awl P (.seq (.region f44r20) (.region f44r19)) Q ts os := id rfl
def f44b22 : AQ := (.block 1 f44b21)
theorem uf44b22 (P ts os Q) : awl P f44b22 Q ts os = awl P (.block 1 f44b21) Q ts os := id rfl
def f44b23 : AQ := (.seq f44b22 (.region f44r18))
theorem uf44b23 (P ts os Q) : awl P f44b23 Q ts os = awl P (.seq f44b22 (.region f44r18)) Q ts os := id rfl
def f44b24 : AQ := (.cond (.t 6) .skip (.exit 0))
theorem uf44b24 (P ts os Q) : awl P f44b24 Q ts os = awl P (.cond (.t 6) .skip (.exit 0)) Q ts os := id rfl
def f44b25 : AQ := (.seq f44b24 f44b23)
theorem uf44b25 (P ts os Q) : awl P f44b25 Q ts os = awl P (.seq f44b24 f44b23) Q ts os := id rfl
def f44r26 : List AI := [⟨none, (.bin 6 .lss (.t 5) (.v (.k (.c (.int .i64 22)))))⟩]
theorem uf44r26 : type_of% @f44r26.eq_1 := id @f44r26.eq_1
def f44b27 : AQ := (.seq (.region f44r26) f44b25)
theorem uf44b27 (P ts os Q) : awl P f44b27 Q ts os = awl P (.seq (.region f44r26) f44b25) Q ts os := id rfl
def f44l28 : AQ := .loop [0, 1, 5] [0, 1] f44b27
theorem uf44l28 (P ts os Q) : awl P f44l28 Q ts os = awl P (.loop [0, 1, 5] [0, 1] f44b27) Q ts os := id rfl
def f44b29 : AQ := (.block 0 f44l28)
theorem uf44b29 (P ts os Q) : awl P f44b29 Q ts os = awl P (.block 0 f44l28) Q ts os := id rfl
def f44r30 : List AI := [⟨none, (.mov 5 (.v (.k (.c (.int .i64 0)))))⟩]
theorem uf44r30 : type_of% @f44r30.eq_1 := id @f44r30.eq_1
def f44b31 : AQ := (.seq (.region f44r30) f44b29)
theorem uf44b31 (P ts os Q) : awl P f44b31 Q ts os = awl P (.seq (.region f44r30) f44b29) Q ts os := id rfl
def f44b32 : AQ := (.seq f44b31 f44b17)
theorem uf44b32 (P ts os Q) : awl P f44b32 Q ts os = awl P (.seq f44b31 f44b17) Q ts os := id rfl
def f44r33 : List AI := [⟨none, (.alloc 1 65 [(.int .i64 0), (.int .i64 0), (.int .i64 0), (.int .i64 0), (.int .i64 0), (.int .i64 0), (.int .i64 0), (.int .i64 0), (.int .i64 0), (.int .i64 0), (.int .i64 0), (.int .i64 0), (.int .i64 0), (.int .i64 0), (.int .i64 0), (.int .i64 0), (.int .i64 0), (.int .i64 0), (.int .i64 0), (.int .i64 0), (.int .i64 0), (.int .i64 0)])⟩]
theorem uf44r33 : type_of% @f44r33.eq_1 := id @f44r33.eq_1
def f44b34 : AQ := (.seq (.region f44r33) f44b32)
theorem uf44b34 (P ts os Q) : awl P f44b34 Q ts os = awl P (.seq (.region f44r33) f44b32) Q ts os := id rfl
def f44r35 : List AI := [⟨none, (.alloc 0 65 [(.int .i64 0), (.int .i64 0), (.int .i64 0), (.int .i64 0), (.int .i64 0), (.int .i64 0), (.int .i64 0), (.int .i64 0), (.int .i64 0), (.int .i64 0), (.int .i64 0), (.int .i64 0), (.int .i64 0), (.int .i64 0), (.int .i64 0), (.int .i64 0), (.int .i64 0), (.int .i64 0), (.int .i64 0), (.int .i64 0), (.int .i64 0), (.int .i64 0)])⟩]
theorem uf44r35 : type_of% @f44r35.eq_1 := id @f44r35.eq_1
def f44b36 : AQ := (.seq (.region f44r35) f44b34)
theorem uf44b36 (P ts os Q) : awl P f44b36 Q ts os = awl P (.seq (.region f44r35) f44b34) Q ts os := id rfl
def f44 : AQ := f44b36
theorem uf44 (P ts os Q) : awl P f44 Q ts os = awl P f44b36 Q ts os := id rfl
theorem hf44 : cFunc Try.prog 44 = some ⟨21, f44.erase, [(RX.cell 0 22 true)]⟩ := by kernel_rfl
theorem okf44 : f44.ok = true := by kernel_rfl
def f45r1 : List AI := [⟨none, (.mov 5 (.t 1))⟩, ⟨none, (.mov 6 (.t 0))⟩, ⟨none, (.bin 7 .gtr (.t 5) (.t 6))⟩, ⟨none, (.mov 8 (.t 7))⟩, ⟨(some (8, true)), (.mov 9 (.t 1))⟩, ⟨(some (8, true)), (.bin 10 .lss (.t 9) (.v (.k (.c (.int .i64 22)))))⟩, ⟨none, (.pick 11 (.t 8) (.t 10) (.v (.k (.c (.bool false)))))⟩, ⟨none, (.mov 4 (.t 11))⟩]
theorem uf45r1 : type_of% @f45r1.eq_1 := id @f45r1.eq_1
def f45b2 : AQ := (.seq (.region f45r1) .ret)
theorem uf45b2 (P ts os Q) : awl P f45b2 Q ts os = awl P (.seq (.region f45r1) .ret) Q ts os := id rfl
def f45r3 : List AI := [⟨none, (.mov 4 (.v (.k (.c (.bool false)))))⟩]
theorem uf45r3 : type_of% @f45r3.eq_1 := id @f45r3.eq_1
def f45b4 : AQ := (.seq (.region f45r3) f45b2)
theorem uf45b4 (P ts os Q) : awl P f45b4 Q ts os = awl P (.seq (.region f45r3) f45b2) Q ts os := id rfl
def f45 : AQ := f45b4
theorem uf45 (P ts os Q) : awl P f45 Q ts os = awl P f45b4 Q ts os := id rfl
theorem hf45 : cFunc Try.prog 45 = some ⟨12, f45.erase, [(RX.t 4)]⟩ := by kernel_rfl
theorem okf45 : f45.ok = true := by kernel_rfl
def f46r1 : List AI := [⟨none, (.mov 5 (.t 0))⟩, ⟨none, (.mov 6 (.t 1))⟩, ⟨none, (.call (some 7) 67 [(.t 5), (.t 6)])⟩, ⟨none, (.bin 8 .geq (.t 7) (.v (.k (.c (.int .i64 0)))))⟩, ⟨none, (.mov 4 (.t 8))⟩]
theorem uf46r1 : type_of% @f46r1.eq_1 := id @f46r1.eq_1
def f46b2 : AQ := (.seq (.region f46r1) .ret)
theorem uf46b2 (P ts os Q) : awl P f46b2 Q ts os = awl P (.seq (.region f46r1) .ret) Q ts os := id rfl
def f46r3 : List AI := [⟨none, (.mov 4 (.v (.k (.c (.bool false)))))⟩]
theorem uf46r3 : type_of% @f46r3.eq_1 := id @f46r3.eq_1
def f46b4 : AQ := (.seq (.region f46r3) f46b2)
theorem uf46b4 (P ts os Q) : awl P f46b4 Q ts os = awl P (.seq (.region f46r3) f46b2) Q ts os := id rfl
def f46 : AQ := f46b4
theorem uf46 (P ts os Q) : awl P f46 Q ts os = awl P f46b4 Q ts os := id rfl
theorem hf46 : cFunc Try.prog 46 = some ⟨9, f46.erase, [(RX.t 4)]⟩ := by kernel_rfl
theorem okf46 : f46.ok = true := by kernel_rfl
def f47r1 : List AI := [⟨none, (.faddr 4 0 (.t 2))⟩, ⟨none, (.load 5 1 false (.t 4))⟩, ⟨none, (.load 6 1 false (.t 1))⟩, ⟨none, (.bin 7 .eql (.t 5) (.t 6))⟩, ⟨none, (.mov 3 (.t 7))⟩]
theorem uf47r1 : type_of% @f47r1.eq_1 := id @f47r1.eq_1
def f47b2 : AQ := (.seq (.region f47r1) .ret)
theorem uf47b2 (P ts os Q) : awl P f47b2 Q ts os = awl P (.seq (.region f47r1) .ret) Q ts os := id rfl
def f47r3 : List AI := [⟨none, (.box 2 43 (.t 0))⟩, ⟨none, (.mov 3 (.v (.k (.c (.bool false)))))⟩]
theorem uf47r3 : type_of% @f47r3.eq_1 := id @f47r3.eq_1
def f47b4 : AQ := (.seq (.region f47r3) f47b2)
theorem uf47b4 (P ts os Q) : awl P f47b4 Q ts os = awl P (.seq (.region f47r3) f47b2) Q ts os := id rfl
def f47 : AQ := f47b4
theorem uf47 (P ts os Q) : awl P f47 Q ts os = awl P f47b4 Q ts os := id rfl
theorem hf47 : cFunc Try.prog 47 = some ⟨8, f47.erase, [(RX.t 3)]⟩ := by kernel_rfl
theorem okf47 : f47.ok = true := by kernel_rfl
def f52r1 : List AI := [⟨none, (.mov 5 (.t 0))⟩, ⟨none, (.mov 6 (.t 1))⟩, ⟨none, (.call (some 7) 70 [(.t 5), (.t 6)])⟩, ⟨none, (.bin 8 .geq (.t 7) (.v (.k (.c (.int .i64 0)))))⟩, ⟨none, (.mov 4 (.t 8))⟩]
theorem uf52r1 : type_of% @f52r1.eq_1 := id @f52r1.eq_1
def f52b2 : AQ := (.seq (.region f52r1) .ret)
theorem uf52b2 (P ts os Q) : awl P f52b2 Q ts os = awl P (.seq (.region f52r1) .ret) Q ts os := id rfl
def f52r3 : List AI := [⟨none, (.mov 4 (.v (.k (.c (.bool false)))))⟩]
theorem uf52r3 : type_of% @f52r3.eq_1 := id @f52r3.eq_1
def f52b4 : AQ := (.seq (.region f52r3) f52b2)
theorem uf52b4 (P ts os Q) : awl P f52b4 Q ts os = awl P (.seq (.region f52r3) f52b2) Q ts os := id rfl
def f52 : AQ := f52b4
theorem uf52 (P ts os Q) : awl P f52 Q ts os = awl P f52b4 Q ts os := id rfl
theorem hf52 : cFunc Try.prog 52 = some ⟨9, f52.erase, [(RX.t 4)]⟩ := by kernel_rfl
theorem okf52 : f52.ok = true := by kernel_rfl
def f53r1 : List AI := [⟨none, (.mov 3 (.t 0))⟩, ⟨none, (.bin 4 .geq (.t 3) (.v (.k (.c (.int .i64 15)))))⟩, ⟨none, (.mov 2 (.t 4))⟩]
theorem uf53r1 : type_of% @f53r1.eq_1 := id @f53r1.eq_1
def f53b2 : AQ := (.seq (.region f53r1) .ret)
theorem uf53b2 (P ts os Q) : awl P f53b2 Q ts os = awl P (.seq (.region f53r1) .ret) Q ts os := id rfl
def f53r3 : List AI := [⟨none, (.mov 2 (.v (.k (.c (.bool false)))))⟩]
theorem uf53r3 : type_of% @f53r3.eq_1 := id @f53r3.eq_1
def f53b4 : AQ := (.seq (.region f53r3) f53b2)
theorem uf53b4 (P ts os Q) : awl P f53b4 Q ts os = awl P (.seq (.region f53r3) f53b2) Q ts os := id rfl
def f53 : AQ := f53b4
theorem uf53 (P ts os Q) : awl P f53 Q ts os = awl P f53b4 Q ts os := id rfl
theorem hf53 : cFunc Try.prog 53 = some ⟨5, f53.erase, [(RX.t 2)]⟩ := by kernel_rfl
theorem okf53 : f53.ok = true := by kernel_rfl
def f58r1 : List AI := [⟨none, (.mov 32 (.t 1))⟩, ⟨none, (.mov 6 (.t 32))⟩]
theorem uf58r1 : type_of% @f58r1.eq_1 := id @f58r1.eq_1
def f58b2 : AQ := (.seq (.region f58r1) .ret)
theorem uf58b2 (P ts os Q) : awl P f58b2 Q ts os = awl P (.seq (.region f58r1) .ret) Q ts os := id rfl
def f58r3 : List AI := [⟨none, (.mov 21 (.t 7))⟩, ⟨none, (.bin 22 .add (.t 21) (.v (.k (.c (.int .i64 1)))))⟩, ⟨none, (.mov 7 (.t 22))⟩]
theorem uf58r3 : type_of% @f58r3.eq_1 := id @f58r3.eq_1
def f58r4 : List AI := [⟨none, (.faddr 23 2 (.t 3))⟩, ⟨none, (.load 24 1 false (.t 23))⟩, ⟨none, (.mov 25 (.t 7))⟩, ⟨none, (.iaddr 26 3 (.t 24) (.t 25))⟩, ⟨none, (.load 27 3 true (.t 26))⟩, ⟨none, (.mov 28 (.t 1))⟩, ⟨none, (.mov 29 (.t 2))⟩, ⟨none, (.bin 30 .sub (.t 29) (.v (.k (.c (.int .i64 1)))))⟩, ⟨none, (.call (some 31) 58 [(.t 27), (.t 28), (.t 30)])⟩, ⟨none, (.mov 1 (.t 31))⟩]
theorem uf58r4 : type_of% @f58r4.eq_1 := id @f58r4.eq_1
def f58b5 : AQ := (.block 1 (.region f58r4))
theorem uf58b5 (P ts os Q) : awl P f58b5 Q ts os = awl P (.block 1 (.region f58r4)) Q ts os := id rfl
def f58b6 : AQ := (.seq f58b5 (.region f58r3))
theorem uf58b6 (P ts os Q) : awl P f58b6 Q ts os = awl P (.seq f58b5 (.region f58r3)) Q ts os := id rfl
def f58b7 : AQ := (.cond (.t 20) .skip (.exit 0))
theorem uf58b7 (P ts os Q) : awl P f58b7 Q ts os = awl P (.cond (.t 20) .skip (.exit 0)) Q ts os := id rfl
def f58r8 : List AI := [⟨none, (.mov 12 (.t 7))⟩, ⟨none, (.faddr 13 2 (.t 3))⟩, ⟨none, (.load 14 1 false (.t 13))⟩, ⟨none, (.len 15 (.t 14))⟩, ⟨none, (.bin 16 .lss (.t 12) (.t 15))⟩, ⟨none, (.mov 17 (.t 16))⟩, ⟨(some (17, true)), (.mov 18 (.t 1))⟩, ⟨(some (17, true)), (.bin 19 .geq (.t 18) (.v (.k (.c (.int .i64 0)))))⟩, ⟨none, (.pick 20 (.t 17) (.t 19) (.v (.k (.c (.bool false)))))⟩]
theorem uf58r8 : type_of% @f58r8.eq_1 := id @f58r8.eq_1
def f58b9 : AQ := (.seq (.region f58r8) f58b7)
theorem uf58b9 (P ts os Q) : awl P f58b9 Q ts os = awl P (.seq (.region f58r8) f58b7) Q ts os := id rfl
def f58b10 : AQ := (.seq f58b9 f58b6)
theorem uf58b10 (P ts os Q) : awl P f58b10 Q ts os = awl P (.seq f58b9 f58b6) Q ts os := id rfl
def f58l11 : AQ := .loop [1, 2, 3, 7] [3] f58b10
theorem uf58l11 (P ts os Q) : awl P f58l11 Q ts os = awl P (.loop [1, 2, 3, 7] [3] f58b10) Q ts os := id rfl
def f58b12 : AQ := (.block 0 f58l11)
theorem uf58b12 (P ts os Q) : awl P f58b12 Q ts os = awl P (.block 0 f58l11) Q ts os := id rfl
def f58r13 : List AI := [⟨none, (.mov 7 (.v (.k (.c (.int .i64 0)))))⟩]
theorem uf58r13 : type_of% @f58r13.eq_1 := id @f58r13.eq_1
def f58b14 : AQ := (.seq (.region f58r13) f58b12)
theorem uf58b14 (P ts os Q) : awl P f58b14 Q ts os = awl P (.seq (.region f58r13) f58b12) Q ts os := id rfl
def f58b15 : AQ := (.seq f58b14 f58b2)
theorem uf58b15 (P ts os Q) : awl P f58b15 Q ts os = awl P (.seq f58b14 f58b2) Q ts os := id rfl
def f58r16 : List AI := [⟨none, (.mov 6 (.v (.k (.c (.int .i64 (-1))))))⟩]
theorem uf58r16 : type_of% @f58r16.eq_1 := id @f58r16.eq_1
def f58b17 : AQ := (.seq (.region f58r16) .ret)
theorem uf58b17 (P ts os Q) : awl P f58b17 Q ts os = awl P (.seq (.region f58r16) .ret) Q ts os := id rfl
def f58b18 : AQ := (.cond (.t 11) f58b17 .skip)
theorem uf58b18 (P ts os Q) : awl P f58b18 Q ts os = awl P (.cond (.t 11) f58b17 .skip) Q ts os := id rfl
def f58r19 : List AI := [⟨none, (.mov 10 (.t 2))⟩, ⟨none, (.bin 11 .lss (.t 10) (.v (.k (.c (.int .i64 1)))))⟩]
theorem uf58r19 : type_of% @f58r19.eq_1 := id @f58r19.eq_1
def f58b20 : AQ := (.seq (.region f58r19) f58b18)
theorem uf58b20 (P ts os Q) : awl P f58b20 Q ts os = awl P (.seq (.region f58r19) f58b18) Q ts os := id rfl
def f58b21 : AQ := (.seq f58b20 f58b15)
theorem uf58b21 (P ts os Q) : awl P f58b21 Q ts os = awl P (.seq f58b20 f58b15) Q ts os := id rfl
def f58r22 : List AI := [⟨none, (.mov 8 (.t 1))⟩, ⟨none, (.bin 9 .sub (.t 8) (.v (.k (.c (.int .i64 1)))))⟩, ⟨none, (.mov 1 (.t 9))⟩]
theorem uf58r22 : type_of% @f58r22.eq_1 := id @f58r22.eq_1
def f58b23 : AQ := (.seq (.region f58r22) f58b21)
theorem uf58b23 (P ts os Q) : awl P f58b23 Q ts os = awl P (.seq (.region f58r22) f58b21) Q ts os := id rfl
def f58r24 : List AI := [⟨none, (.box 3 41 (.t 0))⟩, ⟨none, (.mov 6 (.v (.k (.c (.int .i64 0)))))⟩]
theorem uf58r24 : type_of% @f58r24.eq_1 := id @f58r24.eq_1
def f58b25 : AQ := (.seq (.region f58r24) f58b23)
theorem uf58b25 (P ts os Q) : awl P f58b25 Q ts os = awl P (.seq (.region f58r24) f58b23) Q ts os := id rfl
def f58 : AQ := f58b25
theorem uf58 (P ts os Q) : awl P f58 Q ts os = awl P f58b25 Q ts os := id rfl
theorem hf58 : cFunc Try.prog 58 = some ⟨33, f58.erase, [(RX.t 6)]⟩ := by kernel_rfl
theorem okf58 : f58.ok = true := by kernel_rfl
def f59r1 : List AI := [⟨none, (.mov 26 (.t 5))⟩, ⟨none, (.mov 4 (.t 26))⟩]
theorem uf59r1 : type_of% @f59r1.eq_1 := id @f59r1.eq_1
def f59b2 : AQ := (.seq (.region f59r1) .ret)
theorem uf59b2 (P ts os Q) : awl P f59b2 Q ts os = awl P (.seq (.region f59r1) .ret) Q ts os := id rfl
def f59r3 : List AI := [⟨none, (.bin 25 .add (.t 13) (.v (.k (.c (.int .i64 1)))))⟩, ⟨none, (.mov 13 (.t 25))⟩]
theorem uf59r3 : type_of% @f59r3.eq_1 := id @f59r3.eq_1
def f59b4 : AQ := (.cond (.t 24) (.exit 0) .skip)
theorem uf59b4 (P ts os Q) : awl P f59b4 Q ts os = awl P (.cond (.t 24) (.exit 0) .skip) Q ts os := id rfl
def f59r5 : List AI := [⟨none, (.mov 23 (.t 5))⟩, ⟨none, (.bin 24 .gtr (.t 23) (.v (.k (.c (.int .i64 60)))))⟩]
theorem uf59r5 : type_of% @f59r5.eq_1 := id @f59r5.eq_1
def f59b6 : AQ := (.seq (.region f59r5) f59b4)
theorem uf59b6 (P ts os Q) : awl P f59b6 Q ts os = awl P (.seq (.region f59r5) f59b4) Q ts os := id rfl
def f59r7 : List AI := [⟨none, (.mov 17 (.t 5))⟩, ⟨none, (.load 18 3 true (.t 7))⟩, ⟨none, (.mov 19 (.t 1))⟩, ⟨none, (.bin 20 .add (.t 19) (.v (.k (.c (.int .i64 1)))))⟩, ⟨none, (.call (some 21) 59 [(.t 18), (.t 20)])⟩, ⟨none, (.bin 22 .add (.t 17) (.t 21))⟩, ⟨none, (.mov 5 (.t 22))⟩]
theorem uf59r7 : type_of% @f59r7.eq_1 := id @f59r7.eq_1
def f59b8 : AQ := (.seq (.region f59r7) f59b6)
theorem uf59b8 (P ts os Q) : awl P f59b8 Q ts os = awl P (.seq (.region f59r7) f59b6) Q ts os := id rfl
def f59r9 : List AI := [⟨none, (.iaddr 15 3 (.t 11) (.t 13))⟩, ⟨none, (.load 16 3 true (.t 15))⟩, ⟨none, (.alloc 7 41 [(.int .i64 0), (.int .i64 0), (.list 0 (some true) [])])⟩, ⟨none, (.store 3 (.t 7) (.t 16))⟩]
theorem uf59r9 : type_of% @f59r9.eq_1 := id @f59r9.eq_1
def f59b10 : AQ := (.seq (.region f59r9) f59b8)
theorem uf59b10 (P ts os Q) : awl P f59b10 Q ts os = awl P (.seq (.region f59r9) f59b8) Q ts os := id rfl
def f59b11 : AQ := (.block 1 f59b10)
theorem uf59b11 (P ts os Q) : awl P f59b11 Q ts os = awl P (.block 1 f59b10) Q ts os := id rfl
def f59b12 : AQ := (.seq f59b11 (.region f59r3))
theorem uf59b12 (P ts os Q) : awl P f59b12 Q ts os = awl P (.seq f59b11 (.region f59r3)) Q ts os := id rfl
def f59b13 : AQ := (.cond (.t 14) .skip (.exit 0))
theorem uf59b13 (P ts os Q) : awl P f59b13 Q ts os = awl P (.cond (.t 14) .skip (.exit 0)) Q ts os := id rfl
def f59b14 : AQ := (.seq f59b13 f59b12)
theorem uf59b14 (P ts os Q) : awl P f59b14 Q ts os = awl P (.seq f59b13 f59b12) Q ts os := id rfl
def f59r15 : List AI := [⟨none, (.bin 14 .lss (.t 13) (.t 12))⟩]
theorem uf59r15 : type_of% @f59r15.eq_1 := id @f59r15.eq_1
def f59b16 : AQ := (.seq (.region f59r15) f59b14)
theorem uf59b16 (P ts os Q) : awl P f59b16 Q ts os = awl P (.seq (.region f59r15) f59b14) Q ts os := id rfl
def f59l17 : AQ := .loop [1, 5, 11, 12, 13] [] f59b16
theorem uf59l17 (P ts os Q) : awl P f59l17 Q ts os = awl P (.loop [1, 5, 11, 12, 13] [] f59b16) Q ts os := id rfl
def f59b18 : AQ := (.block 0 f59l17)
theorem uf59b18 (P ts os Q) : awl P f59b18 Q ts os = awl P (.block 0 f59l17) Q ts os := id rfl
def f59r19 : List AI := [⟨none, (.faddr 10 2 (.t 2))⟩, ⟨none, (.load 11 1 false (.t 10))⟩, ⟨none, (.len 12 (.t 11))⟩, ⟨none, (.mov 13 (.v (.k (.c (.int .i64 0)))))⟩]
theorem uf59r19 : type_of% @f59r19.eq_1 := id @f59r19.eq_1
def f59b20 : AQ := (.seq (.region f59r19) f59b18)
theorem uf59b20 (P ts os Q) : awl P f59b20 Q ts os = awl P (.seq (.region f59r19) f59b18) Q ts os := id rfl
def f59b21 : AQ := (.seq f59b20 f59b2)
theorem uf59b21 (P ts os Q) : awl P f59b21 Q ts os = awl P (.seq f59b20 f59b2) Q ts os := id rfl
def f59r22 : List AI := [⟨none, (.mov 5 (.v (.k (.c (.int .i64 1)))))⟩]
theorem uf59r22 : type_of% @f59r22.eq_1 := id @f59r22.eq_1
def f59b23 : AQ := (.seq (.region f59r22) f59b21)
theorem uf59b23 (P ts os Q) : awl P f59b23 Q ts os = awl P (.seq (.region f59r22) f59b21) Q ts os := id rfl
def f59r24 : List AI := [⟨none, (.mov 4 (.v (.k (.c (.int .i64 61)))))⟩]
theorem uf59r24 : type_of% @f59r24.eq_1 := id @f59r24.eq_1
def f59b25 : AQ := (.seq (.region f59r24) .ret)
theorem uf59b25 (P ts os Q) : awl P f59b25 Q ts os = awl P (.seq (.region f59r24) .ret) Q ts os := id rfl
def f59b26 : AQ := (.cond (.t 9) f59b25 .skip)
theorem uf59b26 (P ts os Q) : awl P f59b26 Q ts os = awl P (.cond (.t 9) f59b25 .skip) Q ts os := id rfl
def f59r27 : List AI := [⟨none, (.mov 8 (.t 1))⟩, ⟨none, (.bin 9 .gtr (.t 8) (.v (.k (.c (.int .i64 8)))))⟩]
theorem uf59r27 : type_of% @f59r27.eq_1 := id @f59r27.eq_1
def f59b28 : AQ := (.seq (.region f59r27) f59b26)
theorem uf59b28 (P ts os Q) : awl P f59b28 Q ts os = awl P (.seq (.region f59r27) f59b26) Q ts os := id rfl
def f59b29 : AQ := (.seq f59b28 f59b23)
theorem uf59b29 (P ts os Q) : awl P f59b29 Q ts os = awl P (.seq f59b28 f59b23) Q ts os := id rfl
def f59r30 : List AI := [⟨none, (.box 2 41 (.t 0))⟩, ⟨none, (.mov 4 (.v (.k (.c (.int .i64 0)))))⟩]
theorem uf59r30 : type_of% @f59r30.eq_1 := id @f59r30.eq_1
def f59b31 : AQ := (.seq (.region f59r30) f59b29)
theorem uf59b31 (P ts os Q) : awl P f59b31 Q ts os = awl P (.seq (.region f59r30) f59b29) Q ts os := id rfl
def f59 : AQ := f59b31
theorem uf59 (P ts os Q) : awl P f59 Q ts os = awl P f59b31 Q ts os := id rfl
theorem hf59 : cFunc Try.prog 59 = some ⟨27, f59.erase, [(RX.t 4)]⟩ := by kernel_rfl
theorem okf59 : f59.ok = true := by kernel_rfl
def f60r1 : List AI := [⟨none, (.faddr 111 1 (.t 9))⟩, ⟨none, (.load 112 1 false (.t 111))⟩, ⟨none, (.mov 2 (.t 112))⟩, ⟨none, (.mov 3 (.v (.k (.c (.int .i64 0)))))⟩]
theorem uf60r1 : type_of% @f60r1.eq_1 := id @f60r1.eq_1
def f60b2 : AQ := (.seq (.region f60r1) .ret)
theorem uf60b2 (P ts os Q) : awl P f60b2 Q ts os = awl P (.seq (.region f60r1) .ret) Q ts os := id rfl
def f60r3 : List AI := [⟨none, (.mov 110 (.t 10))⟩, ⟨none, (.mov 2 (.t 110))⟩, ⟨none, (.mov 3 (.v (.k (.c (.int .i64 0)))))⟩]
theorem uf60r3 : type_of% @f60r3.eq_1 := id @f60r3.eq_1
def f60b4 : AQ := (.seq (.region f60r3) .ret)
theorem uf60b4 (P ts os Q) : awl P f60b4 Q ts os = awl P (.seq (.region f60r3) .ret) Q ts os := id rfl
def f60b5 : AQ := (.cond (.t 109) f60b4 .skip)
theorem uf60b5 (P ts os Q) : awl P f60b5 Q ts os = awl P (.cond (.t 109) f60b4 .skip) Q ts os := id rfl
def f60r6 : List AI := [⟨none, (.faddr 107 1 (.t 9))⟩, ⟨none, (.load 108 1 false (.t 107))⟩, ⟨none, (.bin 109 .eql (.t 108) (.v (.k (.c (.int .i64 (-1))))))⟩]
theorem uf60r6 : type_of% @f60r6.eq_1 := id @f60r6.eq_1
def f60b7 : AQ := (.seq (.region f60r6) f60b5)
theorem uf60b7 (P ts os Q) : awl P f60b7 Q ts os = awl P (.seq (.region f60r6) f60b5) Q ts os := id rfl
def f60b8 : AQ := (.seq f60b7 f60b2)
theorem uf60b8 (P ts os Q) : awl P f60b8 Q ts os = awl P (.seq f60b7 f60b2) Q ts os := id rfl
def f60r9 : List AI := [⟨none, (.bin 106 .add (.t 82) (.v (.k (.c (.int .i64 1)))))⟩, ⟨none, (.mov 82 (.t 106))⟩]
theorem uf60r9 : type_of% @f60r9.eq_1 := id @f60r9.eq_1
def f60r10 : List AI := [⟨none, (.mov 2 (.v (.k (.c (.int .i64 0)))))⟩, ⟨none, (.mov 3 (.v (.k (.c (.int .i64 11)))))⟩]
theorem uf60r10 : type_of% @f60r10.eq_1 := id @f60r10.eq_1
def f60b11 : AQ := (.seq (.region f60r10) .ret)
theorem uf60b11 (P ts os Q) : awl P f60b11 Q ts os = awl P (.seq (.region f60r10) .ret) Q ts os := id rfl
def f60b12 : AQ := (.cond (.t 105) f60b11 .skip)
theorem uf60b12 (P ts os Q) : awl P f60b12 Q ts os = awl P (.cond (.t 105) f60b11 .skip) Q ts os := id rfl
def f60r13 : List AI := [⟨none, (.mov 100 (.t 4))⟩, ⟨none, (.mov 101 (.t 11))⟩, ⟨none, (.iaddr 102 1 (.t 100) (.t 101))⟩, ⟨none, (.load 103 1 false (.t 102))⟩, ⟨none, (.mov 104 (.t 12))⟩, ⟨none, (.bin 105 .neq (.t 103) (.t 104))⟩]
theorem uf60r13 : type_of% @f60r13.eq_1 := id @f60r13.eq_1
def f60b14 : AQ := (.seq (.region f60r13) f60b12)
theorem uf60b14 (P ts os Q) : awl P f60b14 Q ts os = awl P (.seq (.region f60r13) f60b12) Q ts os := id rfl
def f60r15 : List AI := [⟨none, (.mov 99 (.t 10))⟩, ⟨none, (.mov 12 (.t 99))⟩]
theorem uf60r15 : type_of% @f60r15.eq_1 := id @f60r15.eq_1
def f60b16 : AQ := (.cond (.t 98) (.region f60r15) .skip)
theorem uf60b16 (P ts os Q) : awl P f60b16 Q ts os = awl P (.cond (.t 98) (.region f60r15) .skip) Q ts os := id rfl
def f60r17 : List AI := [⟨none, (.mov 97 (.t 12))⟩, ⟨none, (.bin 98 .eql (.t 97) (.v (.k (.c (.int .i64 (-1))))))⟩]
theorem uf60r17 : type_of% @f60r17.eq_1 := id @f60r17.eq_1
def f60b18 : AQ := (.seq (.region f60r17) f60b16)
theorem uf60b18 (P ts os Q) : awl P f60b18 Q ts os = awl P (.seq (.region f60r17) f60b16) Q ts os := id rfl
def f60b19 : AQ := (.seq f60b18 f60b14)
theorem uf60b19 (P ts os Q) : awl P f60b19 Q ts os = awl P (.seq f60b18 f60b14) Q ts os := id rfl
def f60r20 : List AI := [⟨none, (.mov 93 (.t 4))⟩, ⟨none, (.mov 94 (.t 11))⟩, ⟨none, (.iaddr 95 1 (.t 93) (.t 94))⟩, ⟨none, (.load 96 1 false (.t 95))⟩, ⟨none, (.mov 10 (.t 96))⟩]
theorem uf60r20 : type_of% @f60r20.eq_1 := id @f60r20.eq_1
def f60b21 : AQ := (.cond (.t 92) (.region f60r20) .skip)
theorem uf60b21 (P ts os Q) : awl P f60b21 Q ts os = awl P (.cond (.t 92) (.region f60r20) .skip) Q ts os := id rfl
def f60r22 : List AI := [⟨none, (.mov 87 (.t 12))⟩, ⟨none, (.bin 88 .eql (.t 87) (.v (.k (.c (.int .i64 (-1))))))⟩, ⟨none, (.mov 89 (.t 88))⟩, ⟨(some (89, true)), (.mov 90 (.t 10))⟩, ⟨(some (89, true)), (.bin 91 .eql (.t 90) (.v (.k (.c (.int .i64 (-1))))))⟩, ⟨none, (.pick 92 (.t 89) (.t 91) (.v (.k (.c (.bool false)))))⟩]
theorem uf60r22 : type_of% @f60r22.eq_1 := id @f60r22.eq_1
def f60b23 : AQ := (.seq (.region f60r22) f60b21)
theorem uf60b23 (P ts os Q) : awl P f60b23 Q ts os = awl P (.seq (.region f60r22) f60b21) Q ts os := id rfl
def f60b24 : AQ := (.seq f60b23 f60b19)
theorem uf60b24 (P ts os Q) : awl P f60b24 Q ts os = awl P (.seq f60b23 f60b19) Q ts os := id rfl
def f60r25 : List AI := [⟨none, (.mov 84 (.t 82))⟩, ⟨none, (.iaddr 85 1 (.t 80) (.t 82))⟩, ⟨none, (.load 86 1 false (.t 85))⟩, ⟨none, (.mov 11 (.t 84))⟩, ⟨none, (.mov 12 (.t 86))⟩]
theorem uf60r25 : type_of% @f60r25.eq_1 := id @f60r25.eq_1
def f60b26 : AQ := (.seq (.region f60r25) f60b24)
theorem uf60b26 (P ts os Q) : awl P f60b26 Q ts os = awl P (.seq (.region f60r25) f60b24) Q ts os := id rfl
def f60b27 : AQ := (.block 4 f60b26)
theorem uf60b27 (P ts os Q) : awl P f60b27 Q ts os = awl P (.block 4 f60b26) Q ts os := id rfl
def f60b28 : AQ := (.seq f60b27 (.region f60r9))
theorem uf60b28 (P ts os Q) : awl P f60b28 Q ts os = awl P (.seq f60b27 (.region f60r9)) Q ts os := id rfl
def f60b29 : AQ := (.cond (.t 83) .skip (.exit 3))
theorem uf60b29 (P ts os Q) : awl P f60b29 Q ts os = awl P (.cond (.t 83) .skip (.exit 3)) Q ts os := id rfl
def f60b30 : AQ := (.seq f60b29 f60b28)
theorem uf60b30 (P ts os Q) : awl P f60b30 Q ts os = awl P (.seq f60b29 f60b28) Q ts os := id rfl
def f60r31 : List AI := [⟨none, (.bin 83 .lss (.t 82) (.t 81))⟩]
theorem uf60r31 : type_of% @f60r31.eq_1 := id @f60r31.eq_1
def f60b32 : AQ := (.seq (.region f60r31) f60b30)
theorem uf60b32 (P ts os Q) : awl P f60b32 Q ts os = awl P (.seq (.region f60r31) f60b30) Q ts os := id rfl
def f60l33 : AQ := .loop [4, 9, 10, 80, 81, 82] [9, 16, 67, 68000, 68001, 68002] f60b32
theorem uf60l33 (P ts os Q) : awl P f60l33 Q ts os = awl P (.loop [4, 9, 10, 80, 81, 82] [9, 16, 67, 68000, 68001, 68002] f60b32) Q ts os := id rfl
def f60b34 : AQ := (.block 3 f60l33)
theorem uf60b34 (P ts os Q) : awl P f60b34 Q ts os = awl P (.block 3 f60l33) Q ts os := id rfl
def f60r35 : List AI := [⟨none, (.faddr 79 0 (.t 9))⟩, ⟨none, (.load 80 1 false (.t 79))⟩, ⟨none, (.len 81 (.t 80))⟩, ⟨none, (.mov 82 (.v (.k (.c (.int .i64 0)))))⟩]
theorem uf60r35 : type_of% @f60r35.eq_1 := id @f60r35.eq_1
def f60b36 : AQ := (.seq (.region f60r35) f60b34)
theorem uf60b36 (P ts os Q) : awl P f60b36 Q ts os = awl P (.seq (.region f60r35) f60b34) Q ts os := id rfl
def f60b37 : AQ := (.seq f60b36 f60b8)
theorem uf60b37 (P ts os Q) : awl P f60b37 Q ts os = awl P (.seq f60b36 f60b8) Q ts os := id rfl
def f60r38 : List AI := [⟨none, (.mov 10 (.v (.k (.c (.int .i64 (-1))))))⟩]
theorem uf60r38 : type_of% @f60r38.eq_1 := id @f60r38.eq_1
def f60b39 : AQ := (.seq (.region f60r38) f60b37)
theorem uf60b39 (P ts os Q) : awl P f60b39 Q ts os = awl P (.seq (.region f60r38) f60b37) Q ts os := id rfl
def f60r40 : List AI := [⟨none, (.mov 2 (.v (.k (.c (.int .i64 0)))))⟩, ⟨none, (.mov 3 (.v (.k (.c (.int .i64 2)))))⟩]
theorem uf60r40 : type_of% @f60r40.eq_1 := id @f60r40.eq_1
def f60b41 : AQ := (.seq (.region f60r40) .ret)
theorem uf60b41 (P ts os Q) : awl P f60b41 Q ts os = awl P (.seq (.region f60r40) .ret) Q ts os := id rfl
def f60b42 : AQ := (.cond (.t 78) f60b41 .skip)
theorem uf60b42 (P ts os Q) : awl P f60b42 Q ts os = awl P (.cond (.t 78) f60b41 .skip) Q ts os := id rfl
def f60r43 : List AI := [⟨none, (.mov 68 (.t 4))⟩, ⟨none, (.len 69 (.t 68))⟩, ⟨none, (.faddr 70 0 (.t 9))⟩, ⟨none, (.load 71 1 false (.t 70))⟩, ⟨none, (.len 72 (.t 71))⟩, ⟨none, (.bin 73 .neq (.t 69) (.t 72))⟩, ⟨none, (.mov 74 (.t 73))⟩, ⟨(some (74, false)), (.faddr 75 1 (.t 1))⟩, ⟨(some (74, false)), (.load 76 1 false (.t 75))⟩, ⟨(some (74, false)), (.bin 77 .neq (.t 76) (.v (.k (.c (.int .i64 0)))))⟩, ⟨none, (.pick 78 (.t 74) (.v (.k (.c (.bool true)))) (.t 77))⟩]
theorem uf60r43 : type_of% @f60r43.eq_1 := id @f60r43.eq_1
def f60b44 : AQ := (.seq (.region f60r43) f60b42)
theorem uf60b44 (P ts os Q) : awl P f60b44 Q ts os = awl P (.seq (.region f60r43) f60b42) Q ts os := id rfl
def f60b45 : AQ := (.seq f60b44 f60b39)
theorem uf60b45 (P ts os Q) : awl P f60b45 Q ts os = awl P (.seq f60b44 f60b39) Q ts os := id rfl
def f60r46 : List AI := [⟨none, (.faddr 65 0 (.t 1))⟩, ⟨none, (.load 66 1 false (.t 65))⟩, ⟨none, (.call (some 67) 72 [(.t 66)])⟩, ⟨none, (.alloc 9 92 [(.list 0 (some true) []), (.int .i64 0)])⟩, ⟨none, (.store 2 (.t 9) (.t 67))⟩]
theorem uf60r46 : type_of% @f60r46.eq_1 := id @f60r46.eq_1
def f60b47 : AQ := (.seq (.region f60r46) f60b45)
theorem uf60b47 (P ts os Q) : awl P f60b47 Q ts os = awl P (.seq (.region f60r46) f60b45) Q ts os := id rfl
def f60r48 : List AI := [⟨none, (.mov 2 (.v (.k (.c (.int .i64 0)))))⟩, ⟨none, (.mov 3 (.v (.k (.c (.int .i64 1)))))⟩]
theorem uf60r48 : type_of% @f60r48.eq_1 := id @f60r48.eq_1
def f60b49 : AQ := (.seq (.region f60r48) .ret)
theorem uf60b49 (P ts os Q) : awl P f60b49 Q ts os = awl P (.seq (.region f60r48) .ret) Q ts os := id rfl
def f60r50 : List AI := [⟨none, (.load 61 3 true (.t 1))⟩, ⟨none, (.call (some 62) 71 [(.t 61)])⟩, ⟨none, (.extr 63 (.t 62) 0)⟩, ⟨none, (.extr 64 (.t 62) 1)⟩, ⟨none, (.mov 2 (.t 63))⟩, ⟨none, (.mov 3 (.t 64))⟩]
theorem uf60r50 : type_of% @f60r50.eq_1 := id @f60r50.eq_1
def f60b51 : AQ := (.seq (.region f60r50) .ret)
theorem uf60b51 (P ts os Q) : awl P f60b51 Q ts os = awl P (.seq (.region f60r50) .ret) Q ts os := id rfl
def f60b52 : AQ := (.cond (.t 47) f60b51 .skip)
theorem uf60b52 (P ts os Q) : awl P f60b52 Q ts os = awl P (.cond (.t 47) f60b51 .skip) Q ts os := id rfl
def f60r53 : List AI := [⟨none, (.faddr 48 0 (.t 1))⟩, ⟨none, (.load 49 1 false (.t 48))⟩, ⟨none, (.bin 50 .eql (.t 49) (.v (.k (.c (.int .i64 0)))))⟩, ⟨none, (.mov 51 (.t 50))⟩, ⟨(some (51, false)), (.faddr 52 0 (.t 1))⟩, ⟨(some (51, false)), (.load 53 1 false (.t 52))⟩, ⟨(some (51, false)), (.bin 54 .eql (.t 53) (.v (.k (.c (.int .i64 1)))))⟩, ⟨none, (.pick 55 (.t 51) (.v (.k (.c (.bool true)))) (.t 54))⟩, ⟨none, (.mov 56 (.t 55))⟩, ⟨(some (56, false)), (.faddr 57 0 (.t 1))⟩, ⟨(some (56, false)), (.load 58 1 false (.t 57))⟩, ⟨(some (56, false)), (.bin 59 .eql (.t 58) (.v (.k (.c (.int .i64 2)))))⟩, ⟨none, (.pick 60 (.t 56) (.v (.k (.c (.bool true)))) (.t 59))⟩, ⟨none, (.mov 47 (.t 60))⟩]
theorem uf60r53 : type_of% @f60r53.eq_1 := id @f60r53.eq_1
def f60b54 : AQ := (.seq (.region f60r53) f60b52)
theorem uf60b54 (P ts os Q) : awl P f60b54 Q ts os = awl P (.seq (.region f60r53) f60b52) Q ts os := id rfl
def f60b55 : AQ := (.cond (.t 38) f60b49 f60b54)
theorem uf60b55 (P ts os Q) : awl P f60b55 Q ts os = awl P (.cond (.t 38) f60b49 f60b54) Q ts os := id rfl
def f60r56 : List AI := [⟨none, (.faddr 39 0 (.t 1))⟩, ⟨none, (.load 40 1 false (.t 39))⟩, ⟨none, (.bin 41 .lss (.t 40) (.v (.k (.c (.int .i64 0)))))⟩, ⟨none, (.mov 42 (.t 41))⟩, ⟨(some (42, false)), (.faddr 43 0 (.t 1))⟩, ⟨(some (42, false)), (.load 44 1 false (.t 43))⟩, ⟨(some (42, false)), (.bin 45 .gtr (.t 44) (.v (.k (.c (.int .i64 13)))))⟩, ⟨none, (.pick 46 (.t 42) (.v (.k (.c (.bool true)))) (.t 45))⟩, ⟨none, (.mov 38 (.t 46))⟩]
theorem uf60r56 : type_of% @f60r56.eq_1 := id @f60r56.eq_1
def f60b57 : AQ := (.seq (.region f60r56) f60b55)
theorem uf60b57 (P ts os Q) : awl P f60b57 Q ts os = awl P (.seq (.region f60r56) f60b55) Q ts os := id rfl
def f60b58 : AQ := (.block 2 f60b57)
theorem uf60b58 (P ts os Q) : awl P f60b58 Q ts os = awl P (.block 2 f60b57) Q ts os := id rfl
def f60b59 : AQ := (.seq f60b58 f60b47)
theorem uf60b59 (P ts os Q) : awl P f60b59 Q ts os = awl P (.seq f60b58 f60b47) Q ts os := id rfl
def f60r60 : List AI := [⟨none, (.bin 37 .add (.t 20) (.v (.k (.c (.int .i64 1)))))⟩, ⟨none, (.mov 20 (.t 37))⟩]
theorem uf60r60 : type_of% @f60r60.eq_1 := id @f60r60.eq_1
def f60r61 : List AI := [⟨none, (.mov 33 (.t 4))⟩, ⟨none, (.mov 34 (.t 5))⟩, ⟨none, (.mov 35 (.t 7))⟩, ⟨none, (.iaddr 36 1 (.t 33) (.t 34))⟩, ⟨none, (.store 1 (.t 36) (.t 35))⟩]
theorem uf60r61 : type_of% @f60r61.eq_1 := id @f60r61.eq_1
def f60r62 : List AI := [⟨none, (.mov 32 (.t 8))⟩, ⟨none, (.mov 2 (.v (.k (.c (.int .i64 0)))))⟩, ⟨none, (.mov 3 (.t 32))⟩]
theorem uf60r62 : type_of% @f60r62.eq_1 := id @f60r62.eq_1
def f60b63 : AQ := (.seq (.region f60r62) .ret)
theorem uf60b63 (P ts os Q) : awl P f60b63 Q ts os = awl P (.seq (.region f60r62) .ret) Q ts os := id rfl
def f60b64 : AQ := (.cond (.t 31) f60b63 .skip)
theorem uf60b64 (P ts os Q) : awl P f60b64 Q ts os = awl P (.cond (.t 31) f60b63 .skip) Q ts os := id rfl
def f60r65 : List AI := [⟨none, (.mov 30 (.t 8))⟩, ⟨none, (.bin 31 .neq (.t 30) (.v (.k (.c (.int .i64 0)))))⟩]
theorem uf60r65 : type_of% @f60r65.eq_1 := id @f60r65.eq_1
def f60b66 : AQ := (.seq (.region f60r65) f60b64)
theorem uf60b66 (P ts os Q) : awl P f60b66 Q ts os = awl P (.seq (.region f60r65) f60b64) Q ts os := id rfl
def f60b67 : AQ := (.seq f60b66 (.region f60r61))
theorem uf60b67 (P ts os Q) : awl P f60b67 Q ts os = awl P (.seq f60b66 (.region f60r61)) Q ts os := id rfl
def f60r68 : List AI := [⟨none, (.load 26 3 true (.t 6))⟩, ⟨none, (.call (some 27) 60 [(.t 26)])⟩, ⟨none, (.mov 25 (.t 27))⟩, ⟨none, (.extr 28 (.t 25) 0)⟩, ⟨none, (.extr 29 (.t 25) 1)⟩, ⟨none, (.mov 7 (.t 28))⟩, ⟨none, (.mov 8 (.t 29))⟩]
theorem uf60r68 : type_of% @f60r68.eq_1 := id @f60r68.eq_1
def f60b69 : AQ := (.seq (.region f60r68) f60b67)
theorem uf60b69 (P ts os Q) : awl P f60b69 Q ts os = awl P (.seq (.region f60r68) f60b67) Q ts os := id rfl
def f60r70 : List AI := [⟨none, (.mov 22 (.t 20))⟩, ⟨none, (.iaddr 23 3 (.t 18) (.t 20))⟩, ⟨none, (.load 24 3 true (.t 23))⟩, ⟨none, (.alloc 6 41 [(.int .i64 0), (.int .i64 0), (.list 0 (some true) [])])⟩, ⟨none, (.mov 5 (.t 22))⟩, ⟨none, (.store 3 (.t 6) (.t 24))⟩]
theorem uf60r70 : type_of% @f60r70.eq_1 := id @f60r70.eq_1
def f60b71 : AQ := (.seq (.region f60r70) f60b69)
theorem uf60b71 (P ts os Q) : awl P f60b71 Q ts os = awl P (.seq (.region f60r70) f60b69) Q ts os := id rfl
def f60b72 : AQ := (.block 1 f60b71)
theorem uf60b72 (P ts os Q) : awl P f60b72 Q ts os = awl P (.block 1 f60b71) Q ts os := id rfl
def f60b73 : AQ := (.seq f60b72 (.region f60r60))
theorem uf60b73 (P ts os Q) : awl P f60b73 Q ts os = awl P (.seq f60b72 (.region f60r60)) Q ts os := id rfl
def f60b74 : AQ := (.cond (.t 21) .skip (.exit 0))
theorem uf60b74 (P ts os Q) : awl P f60b74 Q ts os = awl P (.cond (.t 21) .skip (.exit 0)) Q ts os := id rfl
def f60b75 : AQ := (.seq f60b74 f60b73)
theorem uf60b75 (P ts os Q) : awl P f60b75 Q ts os = awl P (.seq f60b74 f60b73) Q ts os := id rfl
def f60r76 : List AI := [⟨none, (.bin 21 .lss (.t 20) (.t 19))⟩]
theorem uf60r76 : type_of% @f60r76.eq_1 := id @f60r76.eq_1
def f60b77 : AQ := (.seq (.region f60r76) f60b75)
theorem uf60b77 (P ts os Q) : awl P f60b77 Q ts os = awl P (.seq (.region f60r76) f60b75) Q ts os := id rfl
def f60l78 : AQ := .loop [1, 4, 18, 19, 20] [1, 16] f60b77
theorem uf60l78 (P ts os Q) : awl P f60l78 Q ts os = awl P (.loop [1, 4, 18, 19, 20] [1, 16] f60b77) Q ts os := id rfl
def f60b79 : AQ := (.block 0 f60l78)
theorem uf60b79 (P ts os Q) : awl P f60b79 Q ts os = awl P (.block 0 f60l78) Q ts os := id rfl
def f60r80 : List AI := [⟨none, (.faddr 17 2 (.t 1))⟩, ⟨none, (.load 18 1 false (.t 17))⟩, ⟨none, (.len 19 (.t 18))⟩, ⟨none, (.mov 20 (.v (.k (.c (.int .i64 0)))))⟩]
theorem uf60r80 : type_of% @f60r80.eq_1 := id @f60r80.eq_1
def f60b81 : AQ := (.seq (.region f60r80) f60b79)
theorem uf60b81 (P ts os Q) : awl P f60b81 Q ts os = awl P (.seq (.region f60r80) f60b79) Q ts os := id rfl
def f60b82 : AQ := (.seq f60b81 f60b59)
theorem uf60b82 (P ts os Q) : awl P f60b82 Q ts os = awl P (.seq f60b81 f60b59) Q ts os := id rfl
def f60r83 : List AI := [⟨none, (.faddr 13 2 (.t 1))⟩, ⟨none, (.load 14 1 false (.t 13))⟩, ⟨none, (.len 15 (.t 14))⟩, ⟨none, (.mkslice 16 3 1 8 [(.int .i64 0)] (.t 15) (.t 15))⟩, ⟨none, (.mov 4 (.t 16))⟩]
theorem uf60r83 : type_of% @f60r83.eq_1 := id @f60r83.eq_1
def f60b84 : AQ := (.seq (.region f60r83) f60b82)
theorem uf60b84 (P ts os Q) : awl P f60b84 Q ts os = awl P (.seq (.region f60r83) f60b82) Q ts os := id rfl
def f60r85 : List AI := [⟨none, (.box 1 41 (.t 0))⟩, ⟨none, (.mov 2 (.v (.k (.c (.int .i64 0)))))⟩, ⟨none, (.mov 3 (.v (.k (.c (.int .i64 0)))))⟩]
theorem uf60r85 : type_of% @f60r85.eq_1 := id @f60r85.eq_1
def f60b86 : AQ := (.seq (.region f60r85) f60b84)
theorem uf60b86 (P ts os Q) : awl P f60b86 Q ts os = awl P (.seq (.region f60r85) f60b84) Q ts os := id rfl
def f60 : AQ := f60b86
theorem uf60 (P ts os Q) : awl P f60 Q ts os = awl P f60b86 Q ts os := id rfl
theorem hf60 : cFunc Try.prog 60 = some ⟨113, f60.erase, [(RX.t 2), (RX.t 3)]⟩ := by kernel_rfl
theorem okf60 : f60.ok = true := by kernel_rfl
def f62r1 : List AI := [⟨none, (.bin 24 .add (.t 17) (.v (.k (.c (.int .i64 1)))))⟩, ⟨none, (.mov 17 (.t 24))⟩]
theorem uf62r1 : type_of% @f62r1.eq_1 := id @f62r1.eq_1
def f62r2 : List AI := [⟨none, (.load 21 1 false (.t 2))⟩, ⟨none, (.load 22 3 true (.t 5))⟩, ⟨none, (.callv (some 23) (.t 21) [(.t 22)])⟩]
theorem uf62r2 : type_of% @f62r2.eq_1 := id @f62r2.eq_1
def f62r3 : List AI := [⟨none, (.iaddr 19 3 (.t 15) (.t 17))⟩, ⟨none, (.load 20 3 true (.t 19))⟩, ⟨none, (.alloc 5 41 [(.int .i64 0), (.int .i64 0), (.list 0 (some true) [])])⟩, ⟨none, (.store 3 (.t 5) (.t 20))⟩]
theorem uf62r3 : type_of% @f62r3.eq_1 := id @f62r3.eq_1
def f62b4 : AQ := (.seq (.region f62r3) (.region f62r2))
theorem uf62b4 (P ts os Q) : awl P f62b4 Q ts os = awl P (.seq (.region f62r3) (.region f62r2)) Q ts os := id rfl
def f62b5 : AQ := (.block 1 f62b4)
theorem uf62b5 (P ts os Q) : awl P f62b5 Q ts os = awl P (.block 1 f62b4) Q ts os := id rfl
def f62b6 : AQ := (.seq f62b5 (.region f62r1))
theorem uf62b6 (P ts os Q) : awl P f62b6 Q ts os = awl P (.seq f62b5 (.region f62r1)) Q ts os := id rfl
def f62b7 : AQ := (.cond (.t 18) .skip (.exit 0))
theorem uf62b7 (P ts os Q) : awl P f62b7 Q ts os = awl P (.cond (.t 18) .skip (.exit 0)) Q ts os := id rfl
def f62b8 : AQ := (.seq f62b7 f62b6)
theorem uf62b8 (P ts os Q) : awl P f62b8 Q ts os = awl P (.seq f62b7 f62b6) Q ts os := id rfl
def f62r9 : List AI := [⟨none, (.bin 18 .lss (.t 17) (.t 16))⟩]
theorem uf62r9 : type_of% @f62r9.eq_1 := id @f62r9.eq_1
def f62b10 : AQ := (.seq (.region f62r9) f62b8)
theorem uf62b10 (P ts os Q) : awl P f62b10 Q ts os = awl P (.seq (.region f62r9) f62b8) Q ts os := id rfl
def f62l11 : AQ := .loop [1, 2, 15, 16, 17] [1000, 1005, 1006] f62b10
theorem uf62l11 (P ts os Q) : awl P f62l11 Q ts os = awl P (.loop [1, 2, 15, 16, 17] [1000, 1005, 1006] f62b10) Q ts os := id rfl
def f62b12 : AQ := (.block 0 f62l11)
theorem uf62b12 (P ts os Q) : awl P f62b12 Q ts os = awl P (.block 0 f62l11) Q ts os := id rfl
def f62r13 : List AI := [⟨none, (.faddr 14 2 (.t 3))⟩, ⟨none, (.load 15 1 false (.t 14))⟩, ⟨none, (.len 16 (.t 15))⟩, ⟨none, (.mov 17 (.v (.k (.c (.int .i64 0)))))⟩]
theorem uf62r13 : type_of% @f62r13.eq_1 := id @f62r13.eq_1
def f62b14 : AQ := (.seq (.region f62r13) f62b12)
theorem uf62b14 (P ts os Q) : awl P f62b14 Q ts os = awl P (.seq (.region f62r13) f62b12) Q ts os := id rfl
def f62r15 : List AI := [⟨none, (.load 9 1 false (.t 1))⟩, ⟨none, (.faddr 10 1 (.t 3))⟩, ⟨none, (.load 11 1 false (.t 10))⟩, ⟨none, (.bslice 12 3 1 [(.int .i64 0)] 1 [(0, (.t 11))])⟩, ⟨none, (.append 13 3 1 8 (.t 9) (.t 12))⟩, ⟨none, (.store 1 (.t 1) (.t 13))⟩]
theorem uf62r15 : type_of% @f62r15.eq_1 := id @f62r15.eq_1
def f62b16 : AQ := (.cond (.t 8) (.region f62r15) .skip)
theorem uf62b16 (P ts os Q) : awl P f62b16 Q ts os = awl P (.cond (.t 8) (.region f62r15) .skip) Q ts os := id rfl
def f62r17 : List AI := [⟨none, (.faddr 6 0 (.t 3))⟩, ⟨none, (.load 7 1 false (.t 6))⟩, ⟨none, (.bin 8 .eql (.t 7) (.v (.k (.c (.int .i64 2)))))⟩]
theorem uf62r17 : type_of% @f62r17.eq_1 := id @f62r17.eq_1
def f62b18 : AQ := (.seq (.region f62r17) f62b16)
theorem uf62b18 (P ts os Q) : awl P f62b18 Q ts os = awl P (.seq (.region f62r17) f62b16) Q ts os := id rfl
def f62b19 : AQ := (.seq f62b18 f62b14)
theorem uf62b19 (P ts os Q) : awl P f62b19 Q ts os = awl P (.seq f62b18 f62b14) Q ts os := id rfl
def f62r20 : List AI := [⟨none, (.box 3 41 (.t 0))⟩]
theorem uf62r20 : type_of% @f62r20.eq_1 := id @f62r20.eq_1
def f62b21 : AQ := (.seq (.region f62r20) f62b19)
theorem uf62b21 (P ts os Q) : awl P f62b21 Q ts os = awl P (.seq (.region f62r20) f62b19) Q ts os := id rfl
def f62 : AQ := f62b21
theorem uf62 (P ts os Q) : awl P f62 Q ts os = awl P f62b21 Q ts os := id rfl
theorem hf62 : cFunc Try.prog 62 = some ⟨25, f62.erase, []⟩ := by kernel_rfl
theorem okf62 : f62.ok = true := by kernel_rfl
def f64r1 : List AI := [⟨none, (.build 92 [(.bool false), (.int .i64 0)] [])⟩, ⟨none, (.mov 93 (.t 8))⟩, ⟨none, (.call (some 94) 78 [(.t 93)])⟩, ⟨none, (.store 2 (.t 4) (.t 92))⟩, ⟨none, (.mov 5 (.t 94))⟩]
theorem uf64r1 : type_of% @f64r1.eq_1 := id @f64r1.eq_1
def f64b2 : AQ := (.seq (.region f64r1) .ret)
theorem uf64b2 (P ts os Q) : awl P f64b2 Q ts os = awl P (.seq (.region f64r1) .ret) Q ts os := id rfl
def f64r3 : List AI := [⟨none, (.load 91 2 true (.t 12))⟩, ⟨none, (.store 2 (.t 4) (.t 91))⟩, ⟨none, (.nilL 5 3 1)⟩]
theorem uf64r3 : type_of% @f64r3.eq_1 := id @f64r3.eq_1
def f64b4 : AQ := (.seq (.region f64r3) .ret)
theorem uf64b4 (P ts os Q) : awl P f64b4 Q ts os = awl P (.seq (.region f64r3) .ret) Q ts os := id rfl
def f64b5 : AQ := (.cond (.t 90) f64b4 .skip)
theorem uf64b5 (P ts os Q) : awl P f64b5 Q ts os = awl P (.cond (.t 90) f64b4 .skip) Q ts os := id rfl
def f64r6 : List AI := [⟨none, (.faddr 89 0 (.t 12))⟩, ⟨none, (.load 90 1 false (.t 89))⟩]
theorem uf64r6 : type_of% @f64r6.eq_1 := id @f64r6.eq_1
def f64b7 : AQ := (.seq (.region f64r6) f64b5)
theorem uf64b7 (P ts os Q) : awl P f64b7 Q ts os = awl P (.seq (.region f64r6) f64b5) Q ts os := id rfl
def f64r8 : List AI := [⟨none, (.faddr 85 0 (.t 3))⟩, ⟨none, (.load 86 1 false (.t 85))⟩, ⟨none, (.mov 87 (.t 7))⟩, ⟨none, (.call (some 88) 77 [(.t 86), (.t 87)])⟩, ⟨none, (.alloc 12 53 [(.bool false), (.int .i64 0)])⟩, ⟨none, (.store 2 (.t 12) (.t 88))⟩]
theorem uf64r8 : type_of% @f64r8.eq_1 := id @f64r8.eq_1
def f64b9 : AQ := (.seq (.region f64r8) f64b7)
theorem uf64b9 (P ts os Q) : awl P f64b9 Q ts os = awl P (.seq (.region f64r8) f64b7) Q ts os := id rfl
def f64b10 : AQ := (.seq f64b9 f64b2)
theorem uf64b10 (P ts os Q) : awl P f64b10 Q ts os = awl P (.seq f64b9 f64b2) Q ts os := id rfl
def f64r11o0 : AI := ⟨none, (.mov 77 (.t 7))⟩
theorem uf64r11o0 : f64r11o0 = ⟨none, (.mov 77 (.t 7))⟩ := id rfl
def f64r11o1 : AI := ⟨none, (.mov 78 (.t 11))⟩
theorem uf64r11o1 : f64r11o1 = ⟨none, (.mov 78 (.t 11))⟩ := id rfl
def f64r11o2 : AI := ⟨none, (.iaddr 79 2 (.t 77) (.t 78))⟩
theorem uf64r11o2 : f64r11o2 = ⟨none, (.iaddr 79 2 (.t 77) (.t 78))⟩ := id rfl
def f64r11o3 : AI := ⟨none, (.load 80 2 true (.t 79))⟩
theorem uf64r11o3 : f64r11o3 = ⟨none, (.load 80 2 true (.t 79))⟩ := id rfl
def f64r11o4 : AI := ⟨none, (.mov 81 (.t 8))⟩
theorem uf64r11o4 : f64r11o4 = ⟨none, (.mov 81 (.t 8))⟩ := id rfl
def f64r11o5 : AI := ⟨none, (.mov 82 (.t 11))⟩
theorem uf64r11o5 : f64r11o5 = ⟨none, (.mov 82 (.t 11))⟩ := id rfl
def f64r11o6 : AI := ⟨none, (.iaddr 83 1 (.t 81) (.t 82))⟩
theorem uf64r11o6 : f64r11o6 = ⟨none, (.iaddr 83 1 (.t 81) (.t 82))⟩ := id rfl
def f64r11o7 : AI := ⟨none, (.load 84 1 false (.t 83))⟩
theorem uf64r11o7 : f64r11o7 = ⟨none, (.load 84 1 false (.t 83))⟩ := id rfl
def f64r11o8 : AI := ⟨none, (.store 2 (.t 4) (.t 80))⟩
theorem uf64r11o8 : f64r11o8 = ⟨none, (.store 2 (.t 4) (.t 80))⟩ := id rfl
def f64r11o9 : AI := ⟨none, (.mov 5 (.t 84))⟩
theorem uf64r11o9 : f64r11o9 = ⟨none, (.mov 5 (.t 84))⟩ := id rfl
def f64r11 : List AI := [f64r11o0, f64r11o1, f64r11o2, f64r11o3, f64r11o4, f64r11o5, f64r11o6, f64r11o7, f64r11o8, f64r11o9]
theorem utf64r11 : treeOf f64r11 [[], [], [0, 1], [2], [], [], [4, 5], [6], [3, 0, 1, 2, 3], [7, 8, 0, 1, 2, 3, 4, 5, 6, 7, 8]] = (.one f64r11o0 (.one f64r11o1 (.one f64r11o2 (.one f64r11o3 (.alt (.one f64r11o4 (.alt (.one f64r11o5 (.alt (.one f64r11o6 (.alt (.one f64r11o7 (.one f64r11o8 (.one f64r11o9 .done))) (.alt (.one f64r11o8 (.one f64r11o7 (.one f64r11o9 .done))) .top))) (.alt (.one f64r11o8 (.one f64r11o6 (.one f64r11o7 (.one f64r11o9 .done)))) .top))) (.alt (.one f64r11o8 (.one f64r11o5 (.one f64r11o6 (.one f64r11o7 (.one f64r11o9 .done))))) .top))) (.alt (.one f64r11o5 (.alt (.one f64r11o4 (.alt (.one f64r11o6 (.alt (.one f64r11o7 (.one f64r11o8 (.one f64r11o9 .done))) (.alt (.one f64r11o8 (.one f64r11o7 (.one f64r11o9 .done))) .top))) (.alt (.one f64r11o8 (.one f64r11o6 (.one f64r11o7 (.one f64r11o9 .done)))) .top))) (.alt (.one f64r11o8 (.one f64r11o4 (.one f64r11o6 (.one f64r11o7 (.one f64r11o9 .done))))) .top))) (.alt (.one f64r11o8 (.one f64r11o4 (.one f64r11o5 (.one f64r11o6 (.one f64r11o7 (.one f64r11o9 .done)))))) .top))))))) := by kernel_rfl
def f64b12 : AQ := (.seq (.tree f64r11 [[], [], [0, 1], [2], [], [], [4, 5], [6], [3, 0, 1, 2, 3], [7, 8, 0, 1, 2, 3, 4, 5, 6, 7, 8]]) (.keep [4, 5] [4, 5, 26, 33, 37, 41, 57, 88, 94, 27000, 27001, 27002, 58000, 58001, 58002, 89000, 89001, 89002, 95000, 95001, 95002] .ret))
theorem uf64b12 (P ts os Q) : awl P f64b12 Q ts os = awl P (.seq (.tree f64r11 [[], [], [0, 1], [2], [], [], [4, 5], [6], [3, 0, 1, 2, 3], [7, 8, 0, 1, 2, 3, 4, 5, 6, 7, 8]]) (.keep [4, 5] [4, 5, 26, 33, 37, 41, 57, 88, 94, 27000, 27001, 27002, 58000, 58001, 58002, 89000, 89001, 89002, 95000, 95001, 95002] .ret)) Q ts os := id rfl
def f64r13 : List AI := [⟨none, (.mov 72 (.t 7))⟩, ⟨none, (.iaddr 73 2 (.t 72) (.v (.k (.c (.int .i64 0)))))⟩, ⟨none, (.faddr 74 1 (.t 73))⟩, ⟨none, (.load 75 1 false (.t 74))⟩, ⟨none, (.bin 76 .sub (.v (.k (.c (.int .i64 2)))) (.t 75))⟩, ⟨none, (.mov 11 (.t 76))⟩]
theorem uf64r13 : type_of% @f64r13.eq_1 := id @f64r13.eq_1
def f64b14 : AQ := (.seq (.region f64r13) f64b12)
theorem uf64b14 (P ts os Q) : awl P f64b14 Q ts os = awl P (.seq (.region f64r13) f64b12) Q ts os := id rfl
def f64b15 : AQ := (.cond (.t 71) f64b14 .skip)
theorem uf64b15 (P ts os Q) : awl P f64b15 Q ts os = awl P (.cond (.t 71) f64b14 .skip) Q ts os := id rfl
def f64r16 : List AI := [⟨none, (.faddr 63 0 (.t 3))⟩, ⟨none, (.load 64 1 false (.t 63))⟩, ⟨none, (.bin 65 .eql (.t 64) (.v (.k (.c (.int .i64 6)))))⟩, ⟨none, (.mov 66 (.t 65))⟩, ⟨(some (66, true)), (.mov 67 (.t 7))⟩, ⟨(some (66, true)), (.iaddr 68 2 (.t 67) (.v (.k (.c (.int .i64 0)))))⟩, ⟨(some (66, true)), (.faddr 69 0 (.t 68))⟩, ⟨(some (66, true)), (.load 70 1 false (.t 69))⟩, ⟨none, (.pick 71 (.t 66) (.t 70) (.v (.k (.c (.bool false)))))⟩]
theorem uf64r16 : type_of% @f64r16.eq_1 := id @f64r16.eq_1
def f64b17 : AQ := (.seq (.region f64r16) f64b15)
theorem uf64b17 (P ts os Q) : awl P f64b17 Q ts os = awl P (.seq (.region f64r16) f64b15) Q ts os := id rfl
def f64b18 : AQ := (.seq f64b17 f64b10)
theorem uf64b18 (P ts os Q) : awl P f64b18 Q ts os = awl P (.seq f64b17 f64b10) Q ts os := id rfl
def f64r19 : List AI := [⟨none, (.bin 62 .add (.t 45) (.v (.k (.c (.int .i64 1)))))⟩, ⟨none, (.mov 45 (.t 62))⟩]
theorem uf64r19 : type_of% @f64r19.eq_1 := id @f64r19.eq_1
def f64r20 : List AI := [⟨none, (.mov 51 (.t 7))⟩, ⟨none, (.mov 52 (.t 9))⟩, ⟨none, (.mov 53 (.t 8))⟩, ⟨none, (.mov 54 (.t 9))⟩, ⟨none, (.load 55 1 true (.t 2))⟩, ⟨none, (.load 56 3 true (.t 10))⟩, ⟨none, (.call (some 57) 64 [(.t 55), (.t 56)])⟩, ⟨none, (.mov 50 (.t 57))⟩, ⟨none, (.extr 58 (.t 50) 0)⟩, ⟨none, (.extr 59 (.t 50) 1)⟩, ⟨none, (.iaddr 60 2 (.t 51) (.t 52))⟩, ⟨none, (.store 2 (.t 60) (.t 58))⟩, ⟨none, (.iaddr 61 1 (.t 53) (.t 54))⟩, ⟨none, (.store 1 (.t 61) (.t 59))⟩]
theorem uf64r20 : type_of% @f64r20.eq_1 := id @f64r20.eq_1
def f64r21 : List AI := [⟨none, (.mov 47 (.t 45))⟩, ⟨none, (.iaddr 48 3 (.t 43) (.t 45))⟩, ⟨none, (.load 49 3 true (.t 48))⟩, ⟨none, (.alloc 10 41 [(.int .i64 0), (.int .i64 0), (.list 0 (some true) [])])⟩, ⟨none, (.mov 9 (.t 47))⟩, ⟨none, (.store 3 (.t 10) (.t 49))⟩]
theorem uf64r21 : type_of% @f64r21.eq_1 := id @f64r21.eq_1
def f64b22 : AQ := (.seq (.region f64r21) (.region f64r20))
theorem uf64b22 (P ts os Q) : awl P f64b22 Q ts os = awl P (.seq (.region f64r21) (.region f64r20)) Q ts os := id rfl
def f64b23 : AQ := (.block 2 f64b22)
theorem uf64b23 (P ts os Q) : awl P f64b23 Q ts os = awl P (.block 2 f64b22) Q ts os := id rfl
def f64b24 : AQ := (.seq f64b23 (.region f64r19))
theorem uf64b24 (P ts os Q) : awl P f64b24 Q ts os = awl P (.seq f64b23 (.region f64r19)) Q ts os := id rfl
def f64b25 : AQ := (.cond (.t 46) .skip (.exit 1))
theorem uf64b25 (P ts os Q) : awl P f64b25 Q ts os = awl P (.cond (.t 46) .skip (.exit 1)) Q ts os := id rfl
def f64b26 : AQ := (.seq f64b25 f64b24)
theorem uf64b26 (P ts os Q) : awl P f64b26 Q ts os = awl P (.seq f64b25 f64b24) Q ts os := id rfl
def f64r27 : List AI := [⟨none, (.bin 46 .lss (.t 45) (.t 44))⟩]
theorem uf64r27 : type_of% @f64r27.eq_1 := id @f64r27.eq_1
def f64b28 : AQ := (.seq (.region f64r27) f64b26)
theorem uf64b28 (P ts os Q) : awl P f64b28 Q ts os = awl P (.seq (.region f64r27) f64b26) Q ts os := id rfl
def f64l29 : AQ := .loop [2, 3, 4, 7, 8, 43, 44, 45] [2, 3, 4, 26, 37, 41, 57, 88, 27000, 27001, 27002, 58000, 58001, 58002, 89000, 89001, 89002] f64b28
theorem uf64l29 (P ts os Q) : awl P f64l29 Q ts os = awl P (.loop [2, 3, 4, 7, 8, 43, 44, 45] [2, 3, 4, 26, 37, 41, 57, 88, 27000, 27001, 27002, 58000, 58001, 58002, 89000, 89001, 89002] f64b28) Q ts os := id rfl
def f64b30 : AQ := (.block 1 f64l29)
theorem uf64b30 (P ts os Q) : awl P f64b30 Q ts os = awl P (.block 1 f64l29) Q ts os := id rfl
def f64r31 : List AI := [⟨none, (.faddr 42 2 (.t 3))⟩, ⟨none, (.load 43 1 false (.t 42))⟩, ⟨none, (.len 44 (.t 43))⟩, ⟨none, (.mov 45 (.v (.k (.c (.int .i64 0)))))⟩]
theorem uf64r31 : type_of% @f64r31.eq_1 := id @f64r31.eq_1
def f64b32 : AQ := (.seq (.region f64r31) f64b30)
theorem uf64b32 (P ts os Q) : awl P f64b32 Q ts os = awl P (.seq (.region f64r31) f64b30) Q ts os := id rfl
def f64b33 : AQ := (.seq f64b32 (.frz 41 (.frz 37 f64b18)))
theorem uf64b33 (P ts os Q) : awl P f64b33 Q ts os = awl P (.seq f64b32 (.frz 41 (.frz 37 f64b18))) Q ts os := id rfl
def f64r34 : List AI := [⟨none, (.faddr 38 2 (.t 3))⟩, ⟨none, (.load 39 1 false (.t 38))⟩, ⟨none, (.len 40 (.t 39))⟩, ⟨none, (.mkslice 41 36 1 24 [(.list 0 (some true) [])] (.t 40) (.t 40))⟩, ⟨none, (.mov 8 (.t 41))⟩]
theorem uf64r34 : type_of% @f64r34.eq_1 := id @f64r34.eq_1
def f64b35 : AQ := (.seq (.region f64r34) f64b33)
theorem uf64b35 (P ts os Q) : awl P f64b35 Q ts os = awl P (.seq (.region f64r34) f64b33) Q ts os := id rfl
def f64r36 : List AI := [⟨none, (.faddr 34 2 (.t 3))⟩, ⟨none, (.load 35 1 false (.t 34))⟩, ⟨none, (.len 36 (.t 35))⟩, ⟨none, (.mkslice 37 53 2 16 [(.bool false), (.int .i64 0)] (.t 36) (.t 36))⟩, ⟨none, (.mov 7 (.t 37))⟩]
theorem uf64r36 : type_of% @f64r36.eq_1 := id @f64r36.eq_1
def f64b37 : AQ := (.seq (.region f64r36) f64b35)
theorem uf64b37 (P ts os Q) : awl P f64b37 Q ts os = awl P (.seq (.region f64r36) f64b35) Q ts os := id rfl
def f64r38 : List AI := [⟨none, (.faddr 18 1 (.t 3))⟩, ⟨none, (.load 19 1 false (.t 18))⟩, ⟨none, (.build 20 [(.bool false), (.int .i64 0)] [(0, (1, (.v (.k (.c (.bool true)))))), (1, (1, (.t 19)))])⟩, ⟨none, (.store 2 (.t 4) (.t 20))⟩, ⟨none, (.nilL 5 3 1)⟩]
theorem uf64r38 : type_of% @f64r38.eq_1 := id @f64r38.eq_1
def f64b39 : AQ := (.seq (.region f64r38) .ret)
theorem uf64b39 (P ts os Q) : awl P f64b39 Q ts os = awl P (.seq (.region f64r38) .ret) Q ts os := id rfl
def f64r40o0 : AI := ⟨none, (.build 30 [(.bool false), (.int .i64 0)] [])⟩
theorem uf64r40o0 : f64r40o0 = ⟨none, (.build 30 [(.bool false), (.int .i64 0)] [])⟩ := id rfl
def f64r40o1 : AI := ⟨none, (.faddr 31 1 (.t 3))⟩
theorem uf64r40o1 : f64r40o1 = ⟨none, (.faddr 31 1 (.t 3))⟩ := id rfl
def f64r40o2 : AI := ⟨none, (.load 32 1 false (.t 31))⟩
theorem uf64r40o2 : f64r40o2 = ⟨none, (.load 32 1 false (.t 31))⟩ := id rfl
def f64r40o3 : AI := ⟨none, (.bslice 33 3 1 [(.int .i64 0)] 1 [(0, (.t 32))])⟩
theorem uf64r40o3 : f64r40o3 = ⟨none, (.bslice 33 3 1 [(.int .i64 0)] 1 [(0, (.t 32))])⟩ := id rfl
def f64r40o4 : AI := ⟨none, (.store 2 (.t 4) (.t 30))⟩
theorem uf64r40o4 : f64r40o4 = ⟨none, (.store 2 (.t 4) (.t 30))⟩ := id rfl
def f64r40o5 : AI := ⟨none, (.mov 5 (.t 33))⟩
theorem uf64r40o5 : f64r40o5 = ⟨none, (.mov 5 (.t 33))⟩ := id rfl
def f64r40 : List AI := [f64r40o0, f64r40o1, f64r40o2, f64r40o3, f64r40o4, f64r40o5]
theorem utf64r40 : treeOf f64r40 [[], [], [1], [2], [0, 0], [3, 4, 0, 1, 2, 3, 4]] = (.one f64r40o0 (.alt (.one f64r40o1 (.alt (.one f64r40o2 (.alt (.one f64r40o3 (.one f64r40o4 (.one f64r40o5 .done))) (.alt (.one f64r40o4 (.one f64r40o3 (.one f64r40o5 .done))) .top))) (.alt (.one f64r40o4 (.one f64r40o2 (.one f64r40o3 (.one f64r40o5 .done)))) .top))) (.alt (.one f64r40o4 (.one f64r40o1 (.one f64r40o2 (.one f64r40o3 (.one f64r40o5 .done))))) .top))) := by kernel_rfl
def f64b41 : AQ := (.seq (.tree f64r40 [[], [], [1], [2], [0, 0], [3, 4, 0, 1, 2, 3, 4]]) (.keep [4, 5] [4, 5, 26, 33, 37, 41, 57, 88, 94, 27000, 27001, 27002, 58000, 58001, 58002, 89000, 89001, 89002, 95000, 95001, 95002] .ret))
theorem uf64b41 (P ts os Q) : awl P f64b41 Q ts os = awl P (.seq (.tree f64r40 [[], [], [1], [2], [0, 0], [3, 4, 0, 1, 2, 3, 4]]) (.keep [4, 5] [4, 5, 26, 33, 37, 41, 57, 88, 94, 27000, 27001, 27002, 58000, 58001, 58002, 89000, 89001, 89002, 95000, 95001, 95002] .ret)) Q ts os := id rfl
def f64r42 : List AI := [⟨none, (.load 29 2 true (.t 6))⟩, ⟨none, (.store 2 (.t 4) (.t 29))⟩, ⟨none, (.nilL 5 3 1)⟩]
theorem uf64r42 : type_of% @f64r42.eq_1 := id @f64r42.eq_1
def f64b43 : AQ := (.seq (.region f64r42) .ret)
theorem uf64b43 (P ts os Q) : awl P f64b43 Q ts os = awl P (.seq (.region f64r42) .ret) Q ts os := id rfl
def f64b44 : AQ := (.cond (.t 28) f64b43 .skip)
theorem uf64b44 (P ts os Q) : awl P f64b44 Q ts os = awl P (.cond (.t 28) f64b43 .skip) Q ts os := id rfl
def f64r45 : List AI := [⟨none, (.faddr 27 0 (.t 6))⟩, ⟨none, (.load 28 1 false (.t 27))⟩]
theorem uf64r45 : type_of% @f64r45.eq_1 := id @f64r45.eq_1
def f64b46 : AQ := (.seq (.region f64r45) f64b44)
theorem uf64b46 (P ts os Q) : awl P f64b46 Q ts os = awl P (.seq (.region f64r45) f64b44) Q ts os := id rfl
def f64r47 : List AI := [⟨none, (.load 23 1 true (.t 2))⟩, ⟨none, (.faddr 24 1 (.t 3))⟩, ⟨none, (.load 25 1 false (.t 24))⟩, ⟨none, (.call (some 26) 76 [(.t 23), (.t 25)])⟩, ⟨none, (.alloc 6 53 [(.bool false), (.int .i64 0)])⟩, ⟨none, (.store 2 (.t 6) (.t 26))⟩]
theorem uf64r47 : type_of% @f64r47.eq_1 := id @f64r47.eq_1
def f64b48 : AQ := (.seq (.region f64r47) f64b46)
theorem uf64b48 (P ts os Q) : awl P f64b48 Q ts os = awl P (.seq (.region f64r47) f64b46) Q ts os := id rfl
def f64b49 : AQ := (.seq f64b48 f64b41)
theorem uf64b49 (P ts os Q) : awl P f64b49 Q ts os = awl P (.seq f64b48 f64b41) Q ts os := id rfl
def f64b50 : AQ := (.cond (.t 21) f64b49 .skip)
theorem uf64b50 (P ts os Q) : awl P f64b50 Q ts os = awl P (.cond (.t 21) f64b49 .skip) Q ts os := id rfl
def f64r51 : List AI := [⟨none, (.bin 22 .eql (.t 14) (.v (.k (.c (.int .i64 2)))))⟩, ⟨none, (.mov 21 (.t 22))⟩]
theorem uf64r51 : type_of% @f64r51.eq_1 := id @f64r51.eq_1
def f64b52 : AQ := (.seq (.region f64r51) f64b50)
theorem uf64b52 (P ts os Q) : awl P f64b52 Q ts os = awl P (.seq (.region f64r51) f64b50) Q ts os := id rfl
def f64b53 : AQ := (.cond (.t 15) f64b39 f64b52)
theorem uf64b53 (P ts os Q) : awl P f64b53 Q ts os = awl P (.cond (.t 15) f64b39 f64b52) Q ts os := id rfl
def f64r54 : List AI := [⟨none, (.bin 17 .eql (.t 14) (.v (.k (.c (.int .i64 1)))))⟩, ⟨none, (.mov 15 (.t 17))⟩]
theorem uf64r54 : type_of% @f64r54.eq_1 := id @f64r54.eq_1
def f64b55 : AQ := (.cond (.t 15) .skip (.region f64r54))
theorem uf64b55 (P ts os Q) : awl P f64b55 Q ts os = awl P (.cond (.t 15) .skip (.region f64r54)) Q ts os := id rfl
def f64r56 : List AI := [⟨none, (.bin 16 .eql (.t 14) (.v (.k (.c (.int .i64 0)))))⟩, ⟨none, (.mov 15 (.t 16))⟩]
theorem uf64r56 : type_of% @f64r56.eq_1 := id @f64r56.eq_1
def f64b57 : AQ := (.seq (.region f64r56) f64b55)
theorem uf64b57 (P ts os Q) : awl P f64b57 Q ts os = awl P (.seq (.region f64r56) f64b55) Q ts os := id rfl
def f64b58 : AQ := (.seq f64b57 f64b53)
theorem uf64b58 (P ts os Q) : awl P f64b58 Q ts os = awl P (.seq f64b57 f64b53) Q ts os := id rfl
def f64b59 : AQ := (.block 0 f64b58)
theorem uf64b59 (P ts os Q) : awl P f64b59 Q ts os = awl P (.block 0 f64b58) Q ts os := id rfl
def f64r60 : List AI := [⟨none, (.faddr 13 0 (.t 3))⟩, ⟨none, (.load 14 1 false (.t 13))⟩]
theorem uf64r60 : type_of% @f64r60.eq_1 := id @f64r60.eq_1
def f64b61 : AQ := (.seq (.region f64r60) f64b59)
theorem uf64b61 (P ts os Q) : awl P f64b61 Q ts os = awl P (.seq (.region f64r60) f64b59) Q ts os := id rfl
def f64b62 : AQ := (.seq f64b61 f64b37)
theorem uf64b62 (P ts os Q) : awl P f64b62 Q ts os = awl P (.seq f64b61 f64b37) Q ts os := id rfl
def f64r63 : List AI := [⟨none, (.box 2 83 (.t 0))⟩, ⟨none, (.box 3 41 (.t 1))⟩, ⟨none, (.alloc 4 53 [(.bool false), (.int .i64 0)])⟩, ⟨none, (.nilL 5 3 1)⟩]
theorem uf64r63 : type_of% @f64r63.eq_1 := id @f64r63.eq_1
def f64b64 : AQ := (.seq (.region f64r63) f64b62)
theorem uf64b64 (P ts os Q) : awl P f64b64 Q ts os = awl P (.seq (.region f64r63) f64b62) Q ts os := id rfl
def f64 : AQ := f64b64
theorem uf64 (P ts os Q) : awl P f64 Q ts os = awl P f64b64 Q ts os := id rfl
theorem hf64 : cFunc Try.prog 64 = some ⟨95, f64.erase, [(RX.cell 4 2 true), (RX.t 5)]⟩ := by kernel_rfl
theorem okf64 : f64.ok = true := by kernel_rfl
def f67r1 : List AI := [⟨none, (.mov 4 (.v (.k (.c (.int .i64 (-1))))))⟩]
theorem uf67r1 : type_of% @f67r1.eq_1 := id @f67r1.eq_1
def f67b2 : AQ := (.seq (.region f67r1) .ret)
theorem uf67b2 (P ts os Q) : awl P f67b2 Q ts os = awl P (.seq (.region f67r1) .ret) Q ts os := id rfl
def f67r3 : List AI := [⟨none, (.bin 18 .add (.t 8) (.v (.k (.c (.int .i64 1)))))⟩, ⟨none, (.mov 8 (.t 18))⟩]
theorem uf67r3 : type_of% @f67r3.eq_1 := id @f67r3.eq_1
def f67r4 : List AI := [⟨none, (.mov 17 (.t 5))⟩, ⟨none, (.mov 4 (.t 17))⟩]
theorem uf67r4 : type_of% @f67r4.eq_1 := id @f67r4.eq_1
def f67b5 : AQ := (.seq (.region f67r4) .ret)
theorem uf67b5 (P ts os Q) : awl P f67b5 Q ts os = awl P (.seq (.region f67r4) .ret) Q ts os := id rfl
def f67b6 : AQ := (.cond (.t 16) f67b5 .skip)
theorem uf67b6 (P ts os Q) : awl P f67b6 Q ts os = awl P (.cond (.t 16) f67b5 .skip) Q ts os := id rfl
def f67r7 : List AI := [⟨none, (.mov 11 (.t 1))⟩, ⟨none, (.mov 12 (.t 0))⟩, ⟨none, (.mov 13 (.t 5))⟩, ⟨none, (.iaddr 14 4 (.t 12) (.t 13))⟩, ⟨none, (.load 15 4 true (.t 14))⟩, ⟨none, (.callv (some 16) (.t 11) [(.t 15)])⟩]
theorem uf67r7 : type_of% @f67r7.eq_1 := id @f67r7.eq_1
def f67b8 : AQ := (.seq (.region f67r7) f67b6)
theorem uf67b8 (P ts os Q) : awl P f67b8 Q ts os = awl P (.seq (.region f67r7) f67b6) Q ts os := id rfl
def f67r9 : List AI := [⟨none, (.mov 10 (.t 8))⟩, ⟨none, (.mov 5 (.t 10))⟩]
theorem uf67r9 : type_of% @f67r9.eq_1 := id @f67r9.eq_1
def f67b10 : AQ := (.seq (.region f67r9) f67b8)
theorem uf67b10 (P ts os Q) : awl P f67b10 Q ts os = awl P (.seq (.region f67r9) f67b8) Q ts os := id rfl
def f67b11 : AQ := (.block 1 f67b10)
theorem uf67b11 (P ts os Q) : awl P f67b11 Q ts os = awl P (.block 1 f67b10) Q ts os := id rfl
def f67b12 : AQ := (.seq f67b11 (.region f67r3))
theorem uf67b12 (P ts os Q) : awl P f67b12 Q ts os = awl P (.seq f67b11 (.region f67r3)) Q ts os := id rfl
def f67b13 : AQ := (.cond (.t 9) .skip (.exit 0))
theorem uf67b13 (P ts os Q) : awl P f67b13 Q ts os = awl P (.cond (.t 9) .skip (.exit 0)) Q ts os := id rfl
def f67b14 : AQ := (.seq f67b13 f67b12)
theorem uf67b14 (P ts os Q) : awl P f67b14 Q ts os = awl P (.seq f67b13 f67b12) Q ts os := id rfl
def f67r15 : List AI := [⟨none, (.bin 9 .lss (.t 8) (.t 7))⟩]
theorem uf67r15 : type_of% @f67r15.eq_1 := id @f67r15.eq_1
def f67b16 : AQ := (.seq (.region f67r15) f67b14)
theorem uf67b16 (P ts os Q) : awl P f67b16 Q ts os = awl P (.seq (.region f67r15) f67b14) Q ts os := id rfl
def f67l17 : AQ := .loop [0, 1, 7, 8] [] f67b16
theorem uf67l17 (P ts os Q) : awl P f67l17 Q ts os = awl P (.loop [0, 1, 7, 8] [] f67b16) Q ts os := id rfl
def f67b18 : AQ := (.block 0 f67l17)
theorem uf67b18 (P ts os Q) : awl P f67b18 Q ts os = awl P (.block 0 f67l17) Q ts os := id rfl
def f67r19 : List AI := [⟨none, (.mov 6 (.t 0))⟩, ⟨none, (.len 7 (.t 6))⟩, ⟨none, (.mov 8 (.v (.k (.c (.int .i64 0)))))⟩]
theorem uf67r19 : type_of% @f67r19.eq_1 := id @f67r19.eq_1
def f67b20 : AQ := (.seq (.region f67r19) f67b18)
theorem uf67b20 (P ts os Q) : awl P f67b20 Q ts os = awl P (.seq (.region f67r19) f67b18) Q ts os := id rfl
def f67b21 : AQ := (.seq f67b20 f67b2)
theorem uf67b21 (P ts os Q) : awl P f67b21 Q ts os = awl P (.seq f67b20 f67b2) Q ts os := id rfl
def f67r22 : List AI := [⟨none, (.mov 4 (.v (.k (.c (.int .i64 0)))))⟩]
theorem uf67r22 : type_of% @f67r22.eq_1 := id @f67r22.eq_1
def f67b23 : AQ := (.seq (.region f67r22) f67b21)
theorem uf67b23 (P ts os Q) : awl P f67b23 Q ts os = awl P (.seq (.region f67r22) f67b21) Q ts os := id rfl
def f67 : AQ := f67b23
theorem uf67 (P ts os Q) : awl P f67 Q ts os = awl P f67b23 Q ts os := id rfl
theorem hf67 : cFunc Try.prog 67 = some ⟨19, f67.erase, [(RX.t 4)]⟩ := by kernel_rfl
theorem okf67 : f67.ok = true := by kernel_rfl
def f70r1 : List AI := [⟨none, (.mov 4 (.v (.k (.c (.int .i64 (-1))))))⟩]
theorem uf70r1 : type_of% @f70r1.eq_1 := id @f70r1.eq_1
def f70b2 : AQ := (.seq (.region f70r1) .ret)
theorem uf70b2 (P ts os Q) : awl P f70b2 Q ts os = awl P (.seq (.region f70r1) .ret) Q ts os := id rfl
def f70r3 : List AI := [⟨none, (.bin 18 .add (.t 8) (.v (.k (.c (.int .i64 1)))))⟩, ⟨none, (.mov 8 (.t 18))⟩]
theorem uf70r3 : type_of% @f70r3.eq_1 := id @f70r3.eq_1
def f70r4 : List AI := [⟨none, (.mov 17 (.t 5))⟩, ⟨none, (.mov 4 (.t 17))⟩]
theorem uf70r4 : type_of% @f70r4.eq_1 := id @f70r4.eq_1
def f70b5 : AQ := (.seq (.region f70r4) .ret)
theorem uf70b5 (P ts os Q) : awl P f70b5 Q ts os = awl P (.seq (.region f70r4) .ret) Q ts os := id rfl
def f70b6 : AQ := (.cond (.t 16) f70b5 .skip)
theorem uf70b6 (P ts os Q) : awl P f70b6 Q ts os = awl P (.cond (.t 16) f70b5 .skip) Q ts os := id rfl
def f70r7 : List AI := [⟨none, (.mov 11 (.t 1))⟩, ⟨none, (.mov 12 (.t 0))⟩, ⟨none, (.mov 13 (.t 5))⟩, ⟨none, (.iaddr 14 1 (.t 12) (.t 13))⟩, ⟨none, (.load 15 1 false (.t 14))⟩, ⟨none, (.callv (some 16) (.t 11) [(.t 15)])⟩]
theorem uf70r7 : type_of% @f70r7.eq_1 := id @f70r7.eq_1
def f70b8 : AQ := (.seq (.region f70r7) f70b6)
theorem uf70b8 (P ts os Q) : awl P f70b8 Q ts os = awl P (.seq (.region f70r7) f70b6) Q ts os := id rfl
def f70r9 : List AI := [⟨none, (.mov 10 (.t 8))⟩, ⟨none, (.mov 5 (.t 10))⟩]
theorem uf70r9 : type_of% @f70r9.eq_1 := id @f70r9.eq_1
def f70b10 : AQ := (.seq (.region f70r9) f70b8)
theorem uf70b10 (P ts os Q) : awl P f70b10 Q ts os = awl P (.seq (.region f70r9) f70b8) Q ts os := id rfl
def f70b11 : AQ := (.block 1 f70b10)
theorem uf70b11 (P ts os Q) : awl P f70b11 Q ts os = awl P (.block 1 f70b10) Q ts os := id rfl
def f70b12 : AQ := (.seq f70b11 (.region f70r3))
theorem uf70b12 (P ts os Q) : awl P f70b12 Q ts os = awl P (.seq f70b11 (.region f70r3)) Q ts os := id rfl
def f70b13 : AQ := (.cond (.t 9) .skip (.exit 0))
theorem uf70b13 (P ts os Q) : awl P f70b13 Q ts os = awl P (.cond (.t 9) .skip (.exit 0)) Q ts os := id rfl
def f70b14 : AQ := (.seq f70b13 f70b12)
theorem uf70b14 (P ts os Q) : awl P f70b14 Q ts os = awl P (.seq f70b13 f70b12) Q ts os := id rfl
def f70r15 : List AI := [⟨none, (.bin 9 .lss (.t 8) (.t 7))⟩]
theorem uf70r15 : type_of% @f70r15.eq_1 := id @f70r15.eq_1
def f70b16 : AQ := (.seq (.region f70r15) f70b14)
theorem uf70b16 (P ts os Q) : awl P f70b16 Q ts os = awl P (.seq (.region f70r15) f70b14) Q ts os := id rfl
def f70l17 : AQ := .loop [0, 1, 7, 8] [] f70b16
theorem uf70l17 (P ts os Q) : awl P f70l17 Q ts os = awl P (.loop [0, 1, 7, 8] [] f70b16) Q ts os := id rfl
def f70b18 : AQ := (.block 0 f70l17)
theorem uf70b18 (P ts os Q) : awl P f70b18 Q ts os = awl P (.block 0 f70l17) Q ts os := id rfl
def f70r19 : List AI := [⟨none, (.mov 6 (.t 0))⟩, ⟨none, (.len 7 (.t 6))⟩, ⟨none, (.mov 8 (.v (.k (.c (.int .i64 0)))))⟩]
theorem uf70r19 : type_of% @f70r19.eq_1 := id @f70r19.eq_1
def f70b20 : AQ := (.seq (.region f70r19) f70b18)
theorem uf70b20 (P ts os Q) : awl P f70b20 Q ts os = awl P (.seq (.region f70r19) f70b18) Q ts os := id rfl
def f70b21 : AQ := (.seq f70b20 f70b2)
theorem uf70b21 (P ts os Q) : awl P f70b21 Q ts os = awl P (.seq f70b20 f70b2) Q ts os := id rfl
def f70r22 : List AI := [⟨none, (.mov 4 (.v (.k (.c (.int .i64 0)))))⟩]
theorem uf70r22 : type_of% @f70r22.eq_1 := id @f70r22.eq_1
def f70b23 : AQ := (.seq (.region f70r22) f70b21)
theorem uf70b23 (P ts os Q) : awl P f70b23 Q ts os = awl P (.seq (.region f70r22) f70b21) Q ts os := id rfl
def f70 : AQ := f70b23
theorem uf70 (P ts os Q) : awl P f70 Q ts os = awl P f70b23 Q ts os := id rfl
theorem hf70 : cFunc Try.prog 70 = some ⟨19, f70.erase, [(RX.t 4)]⟩ := by kernel_rfl
theorem okf70 : f70.ok = true := by kernel_rfl
def f71r1 : List AI := [⟨none, (.mov 38 (.t 4))⟩, ⟨none, (.mov 2 (.t 38))⟩, ⟨none, (.mov 3 (.v (.k (.c (.int .i64 0)))))⟩]
theorem uf71r1 : type_of% @f71r1.eq_1 := id @f71r1.eq_1
def f71b2 : AQ := (.seq (.region f71r1) .ret)
theorem uf71b2 (P ts os Q) : awl P f71b2 Q ts os = awl P (.seq (.region f71r1) .ret) Q ts os := id rfl
def f71r3 : List AI := [⟨none, (.mov 2 (.v (.k (.c (.int .i64 0)))))⟩, ⟨none, (.mov 3 (.v (.k (.c (.int .i64 10)))))⟩]
theorem uf71r3 : type_of% @f71r3.eq_1 := id @f71r3.eq_1
def f71b4 : AQ := (.seq (.region f71r3) .ret)
theorem uf71b4 (P ts os Q) : awl P f71b4 Q ts os = awl P (.seq (.region f71r3) .ret) Q ts os := id rfl
def f71b5 : AQ := (.cond (.t 37) f71b4 .skip)
theorem uf71b5 (P ts os Q) : awl P f71b5 Q ts os = awl P (.cond (.t 37) f71b4 .skip) Q ts os := id rfl
def f71r6 : List AI := [⟨none, (.mov 36 (.t 5))⟩, ⟨none, (.un 37 .not (.t 36))⟩]
theorem uf71r6 : type_of% @f71r6.eq_1 := id @f71r6.eq_1
def f71b7 : AQ := (.seq (.region f71r6) f71b5)
theorem uf71b7 (P ts os Q) : awl P f71b7 Q ts os = awl P (.seq (.region f71r6) f71b5) Q ts os := id rfl
def f71b8 : AQ := (.seq f71b7 f71b2)
theorem uf71b8 (P ts os Q) : awl P f71b8 Q ts os = awl P (.seq f71b7 f71b2) Q ts os := id rfl
def f71r9 : List AI := [⟨none, (.faddr 31 1 (.t 1))⟩, ⟨none, (.load 32 1 false (.t 31))⟩, ⟨none, (.call (some 33) 33 [(.t 32)])⟩, ⟨none, (.mov 30 (.t 33))⟩, ⟨none, (.extr 34 (.t 30) 0)⟩, ⟨none, (.extr 35 (.t 30) 1)⟩, ⟨none, (.mov 4 (.t 34))⟩, ⟨none, (.mov 5 (.t 35))⟩]
theorem uf71r9 : type_of% @f71r9.eq_1 := id @f71r9.eq_1
def f71b10 : AQ := (.seq (.region f71r9) f71b8)
theorem uf71b10 (P ts os Q) : awl P f71b10 Q ts os = awl P (.seq (.region f71r9) f71b8) Q ts os := id rfl
def f71r11 : List AI := [⟨none, (.mov 2 (.v (.k (.c (.int .i64 0)))))⟩, ⟨none, (.mov 3 (.v (.k (.c (.int .i64 0)))))⟩]
theorem uf71r11 : type_of% @f71r11.eq_1 := id @f71r11.eq_1
def f71b12 : AQ := (.seq (.region f71r11) .ret)
theorem uf71b12 (P ts os Q) : awl P f71b12 Q ts os = awl P (.seq (.region f71r11) .ret) Q ts os := id rfl
def f71r13 : List AI := [⟨none, (.mov 2 (.v (.k (.c (.int .i64 0)))))⟩, ⟨none, (.mov 3 (.v (.k (.c (.int .i64 3)))))⟩]
theorem uf71r13 : type_of% @f71r13.eq_1 := id @f71r13.eq_1
def f71b14 : AQ := (.seq (.region f71r13) .ret)
theorem uf71b14 (P ts os Q) : awl P f71b14 Q ts os = awl P (.seq (.region f71r13) .ret) Q ts os := id rfl
def f71b15 : AQ := (.cond (.t 19) f71b14 .skip)
theorem uf71b15 (P ts os Q) : awl P f71b15 Q ts os = awl P (.cond (.t 19) f71b14 .skip) Q ts os := id rfl
def f71r16 : List AI := [⟨none, (.faddr 14 1 (.t 1))⟩, ⟨none, (.load 15 1 false (.t 14))⟩, ⟨none, (.call (some 16) 93 [(.t 15)])⟩, ⟨none, (.faddr 17 1 (.t 1))⟩, ⟨none, (.load 18 1 false (.t 17))⟩, ⟨none, (.bin 19 .neq (.t 16) (.t 18))⟩]
theorem uf71r16 : type_of% @f71r16.eq_1 := id @f71r16.eq_1
def f71b17 : AQ := (.seq (.draw f71r16 [[], [0], [1], [], [3], [2, 4]]) f71b15)
theorem uf71b17 (P ts os Q) : awl P f71b17 Q ts os = awl P (.seq (.draw f71r16 [[], [0], [1], [], [3], [2, 4]]) f71b15) Q ts os := id rfl
def f71b18 : AQ := (.seq f71b17 f71b12)
theorem uf71b18 (P ts os Q) : awl P f71b18 Q ts os = awl P (.seq f71b17 f71b12) Q ts os := id rfl
def f71r19 : List AI := [⟨none, (.mov 2 (.v (.k (.c (.int .i64 1)))))⟩, ⟨none, (.mov 3 (.v (.k (.c (.int .i64 0)))))⟩]
theorem uf71r19 : type_of% @f71r19.eq_1 := id @f71r19.eq_1
def f71b20 : AQ := (.seq (.region f71r19) .ret)
theorem uf71b20 (P ts os Q) : awl P f71b20 Q ts os = awl P (.seq (.region f71r19) .ret) Q ts os := id rfl
def f71r21 : List AI := [⟨none, (.mov 2 (.v (.k (.c (.int .i64 0)))))⟩, ⟨none, (.mov 3 (.v (.k (.c (.int .i64 3)))))⟩]
theorem uf71r21 : type_of% @f71r21.eq_1 := id @f71r21.eq_1
def f71b22 : AQ := (.seq (.region f71r21) .ret)
theorem uf71b22 (P ts os Q) : awl P f71b22 Q ts os = awl P (.seq (.region f71r21) .ret) Q ts os := id rfl
def f71b23 : AQ := (.cond (.t 29) f71b22 .skip)
theorem uf71b23 (P ts os Q) : awl P f71b23 Q ts os = awl P (.cond (.t 29) f71b22 .skip) Q ts os := id rfl
def f71r24 : List AI := [⟨none, (.faddr 22 1 (.t 1))⟩, ⟨none, (.load 23 1 false (.t 22))⟩, ⟨none, (.bin 24 .lss (.t 23) (.v (.k (.c (.int .i64 0)))))⟩, ⟨none, (.mov 25 (.t 24))⟩, ⟨(some (25, false)), (.faddr 26 1 (.t 1))⟩, ⟨(some (25, false)), (.load 27 1 false (.t 26))⟩, ⟨(some (25, false)), (.bin 28 .gtr (.t 27) (.v (.k (.c (.int .i64 1)))))⟩, ⟨none, (.pick 29 (.t 25) (.v (.k (.c (.bool true)))) (.t 28))⟩]
theorem uf71r24 : type_of% @f71r24.eq_1 := id @f71r24.eq_1
def f71b25 : AQ := (.seq (.region f71r24) f71b23)
theorem uf71b25 (P ts os Q) : awl P f71b25 Q ts os = awl P (.seq (.region f71r24) f71b23) Q ts os := id rfl
def f71b26 : AQ := (.seq f71b25 f71b20)
theorem uf71b26 (P ts os Q) : awl P f71b26 Q ts os = awl P (.seq f71b25 f71b20) Q ts os := id rfl
def f71b27 : AQ := (.cond (.t 20) f71b26 .skip)
theorem uf71b27 (P ts os Q) : awl P f71b27 Q ts os = awl P (.cond (.t 20) f71b26 .skip) Q ts os := id rfl
def f71r28 : List AI := [⟨none, (.bin 21 .eql (.t 11) (.v (.k (.c (.int .i64 1)))))⟩, ⟨none, (.mov 20 (.t 21))⟩]
theorem uf71r28 : type_of% @f71r28.eq_1 := id @f71r28.eq_1
def f71b29 : AQ := (.seq (.region f71r28) f71b27)
theorem uf71b29 (P ts os Q) : awl P f71b29 Q ts os = awl P (.seq (.region f71r28) f71b27) Q ts os := id rfl
def f71b30 : AQ := (.cond (.t 12) f71b18 f71b29)
theorem uf71b30 (P ts os Q) : awl P f71b30 Q ts os = awl P (.cond (.t 12) f71b18 f71b29) Q ts os := id rfl
def f71r31 : List AI := [⟨none, (.bin 13 .eql (.t 11) (.v (.k (.c (.int .i64 0)))))⟩, ⟨none, (.mov 12 (.t 13))⟩]
theorem uf71r31 : type_of% @f71r31.eq_1 := id @f71r31.eq_1
def f71b32 : AQ := (.seq (.region f71r31) f71b30)
theorem uf71b32 (P ts os Q) : awl P f71b32 Q ts os = awl P (.seq (.region f71r31) f71b30) Q ts os := id rfl
def f71b33 : AQ := (.block 0 f71b32)
theorem uf71b33 (P ts os Q) : awl P f71b33 Q ts os = awl P (.block 0 f71b32) Q ts os := id rfl
def f71r34 : List AI := [⟨none, (.faddr 10 0 (.t 1))⟩, ⟨none, (.load 11 1 false (.t 10))⟩]
theorem uf71r34 : type_of% @f71r34.eq_1 := id @f71r34.eq_1
def f71b35 : AQ := (.seq (.region f71r34) f71b33)
theorem uf71b35 (P ts os Q) : awl P f71b35 Q ts os = awl P (.seq (.region f71r34) f71b33) Q ts os := id rfl
def f71b36 : AQ := (.seq f71b35 f71b10)
theorem uf71b36 (P ts os Q) : awl P f71b36 Q ts os = awl P (.seq f71b35 f71b10) Q ts os := id rfl
def f71r37 : List AI := [⟨none, (.mov 2 (.v (.k (.c (.int .i64 0)))))⟩, ⟨none, (.mov 3 (.v (.k (.c (.int .i64 2)))))⟩]
theorem uf71r37 : type_of% @f71r37.eq_1 := id @f71r37.eq_1
def f71b38 : AQ := (.seq (.region f71r37) .ret)
theorem uf71b38 (P ts os Q) : awl P f71b38 Q ts os = awl P (.seq (.region f71r37) .ret) Q ts os := id rfl
def f71b39 : AQ := (.cond (.t 9) f71b38 .skip)
theorem uf71b39 (P ts os Q) : awl P f71b39 Q ts os = awl P (.cond (.t 9) f71b38 .skip) Q ts os := id rfl
def f71r40 : List AI := [⟨none, (.faddr 6 2 (.t 1))⟩, ⟨none, (.load 7 1 false (.t 6))⟩, ⟨none, (.len 8 (.t 7))⟩, ⟨none, (.bin 9 .gtr (.t 8) (.v (.k (.c (.int .i64 0)))))⟩]
theorem uf71r40 : type_of% @f71r40.eq_1 := id @f71r40.eq_1
def f71b41 : AQ := (.seq (.region f71r40) f71b39)
theorem uf71b41 (P ts os Q) : awl P f71b41 Q ts os = awl P (.seq (.region f71r40) f71b39) Q ts os := id rfl
def f71b42 : AQ := (.seq f71b41 f71b36)
theorem uf71b42 (P ts os Q) : awl P f71b42 Q ts os = awl P (.seq f71b41 f71b36) Q ts os := id rfl
def f71r43 : List AI := [⟨none, (.box 1 41 (.t 0))⟩, ⟨none, (.mov 2 (.v (.k (.c (.int .i64 0)))))⟩, ⟨none, (.mov 3 (.v (.k (.c (.int .i64 0)))))⟩]
theorem uf71r43 : type_of% @f71r43.eq_1 := id @f71r43.eq_1
def f71b44 : AQ := (.seq (.region f71r43) f71b42)
theorem uf71b44 (P ts os Q) : awl P f71b44 Q ts os = awl P (.seq (.region f71r43) f71b42) Q ts os := id rfl
def f71 : AQ := f71b44
theorem uf71 (P ts os Q) : awl P f71 Q ts os = awl P f71b44 Q ts os := id rfl
theorem hf71 : cFunc Try.prog 71 = some ⟨39, f71.erase, [(RX.t 2), (RX.t 3)]⟩ := by kernel_rfl
theorem okf71 : f71.ok = true := by kernel_rfl
def f72r1 : List AI := [⟨none, (.bslice 25 3 1 [(.int .i64 0)] 2 [(0, (.v (.k (.c (.int .i64 0))))), (1, (.v (.k (.c (.int .i64 0)))))])⟩, ⟨none, (.build 26 [(.list 0 (some true) []), (.int .i64 0)] [(0, (1, (.t 25))), (1, (1, (.v (.k (.c (.int .i64 0))))))])⟩, ⟨none, (.store 2 (.t 2) (.t 26))⟩]
theorem uf72r1 : type_of% @f72r1.eq_1 := id @f72r1.eq_1
def f72b2 : AQ := (.seq (.region f72r1) .ret)
theorem uf72b2 (P ts os Q) : awl P f72b2 Q ts os = awl P (.seq (.region f72r1) .ret) Q ts os := id rfl
def f72r3 : List AI := [⟨none, (.bslice 6 3 1 [(.int .i64 0)] 1 [(0, (.v (.k (.c (.int .i64 1)))))])⟩, ⟨none, (.build 7 [(.list 0 (some true) []), (.int .i64 0)] [(0, (1, (.t 6))), (1, (1, (.v (.k (.c (.int .i64 1))))))])⟩, ⟨none, (.store 2 (.t 2) (.t 7))⟩]
theorem uf72r3 : type_of% @f72r3.eq_1 := id @f72r3.eq_1
def f72b4 : AQ := (.seq (.region f72r3) .ret)
theorem uf72b4 (P ts os Q) : awl P f72b4 Q ts os = awl P (.seq (.region f72r3) .ret) Q ts os := id rfl
def f72r5 : List AI := [⟨none, (.bslice 11 3 1 [(.int .i64 0)] 2 [(0, (.v (.k (.c (.int .i64 1))))), (1, (.v (.k (.c (.int .i64 1)))))])⟩, ⟨none, (.build 12 [(.list 0 (some true) []), (.int .i64 0)] [(0, (1, (.t 11))), (1, (1, (.v (.k (.c (.int .i64 1))))))])⟩, ⟨none, (.store 2 (.t 2) (.t 12))⟩]
theorem uf72r5 : type_of% @f72r5.eq_1 := id @f72r5.eq_1
def f72b6 : AQ := (.seq (.region f72r5) .ret)
theorem uf72b6 (P ts os Q) : awl P f72b6 Q ts os = awl P (.seq (.region f72r5) .ret) Q ts os := id rfl
def f72r7 : List AI := [⟨none, (.bslice 15 3 1 [(.int .i64 0)] 3 [(0, (.v (.k (.c (.int .i64 1))))), (1, (.v (.k (.c (.int .i64 (-1)))))), (2, (.v (.k (.c (.int .i64 (-1))))))])⟩, (AI.mk none (.build 16 [(.list 0 (some true) []), (.int .i64 0)] [(0, (1, (.t 15))), (1, (1, (.v (.k (.c (.int .i64 (-1)))))))])), ⟨none, (.store 2 (.t 2) (.t 16))⟩]
theorem uf72r7 : type_of% @f72r7.eq_1 := id @f72r7.eq_1
def f72b8 : AQ := (.seq (.region f72r7) .ret)
theorem uf72b8 (P ts os Q) : awl P f72b8 Q ts os = awl P (.seq (.region f72r7) .ret) Q ts os := id rfl
def f72r9 : List AI := [⟨none, (.bslice 19 3 1 [(.int .i64 0)] 2 [(0, (.v (.k (.c (.int .i64 0))))), (1, (.v (.k (.c (.int .i64 0)))))])⟩, ⟨none, (.build 20 [(.list 0 (some true) []), (.int .i64 0)] [(0, (1, (.t 19))), (1, (1, (.v (.k (.c (.int .i64 1))))))])⟩, ⟨none, (.store 2 (.t 2) (.t 20))⟩]
theorem uf72r9 : type_of% @f72r9.eq_1 := id @f72r9.eq_1
def f72b10 : AQ := (.seq (.region f72r9) .ret)
theorem uf72b10 (P ts os Q) : awl P f72b10 Q ts os = awl P (.seq (.region f72r9) .ret) Q ts os := id rfl
def f72r11 : List AI := [⟨none, (.bslice 23 3 1 [(.int .i64 0)] 2 [(0, (.v (.k (.c (.int .i64 (-1)))))), (1, (.v (.k (.c (.int .i64 (-1))))))])⟩, ⟨none, (.build 24 [(.list 0 (some true) []), (.int .i64 0)] [(0, (1, (.t 23))), (1, (1, (.v (.k (.c (.int .i64 1))))))])⟩, ⟨none, (.store 2 (.t 2) (.t 24))⟩]
theorem uf72r11 : type_of% @f72r11.eq_1 := id @f72r11.eq_1
def f72b12 : AQ := (.seq (.region f72r11) .ret)
theorem uf72b12 (P ts os Q) : awl P f72b12 Q ts os = awl P (.seq (.region f72r11) .ret) Q ts os := id rfl
def f72b13 : AQ := (.cond (.t 21) f72b12 .skip)
theorem uf72b13 (P ts os Q) : awl P f72b13 Q ts os = awl P (.cond (.t 21) f72b12 .skip) Q ts os := id rfl
def f72r14 : List AI := [⟨none, (.bin 22 .eql (.t 3) (.v (.k (.c (.int .i64 8)))))⟩, ⟨none, (.mov 21 (.t 22))⟩]
theorem uf72r14 : type_of% @f72r14.eq_1 := id @f72r14.eq_1
def f72b15 : AQ := (.seq (.region f72r14) f72b13)
theorem uf72b15 (P ts os Q) : awl P f72b15 Q ts os = awl P (.seq (.region f72r14) f72b13) Q ts os := id rfl
def f72b16 : AQ := (.cond (.t 17) f72b10 f72b15)
theorem uf72b16 (P ts os Q) : awl P f72b16 Q ts os = awl P (.cond (.t 17) f72b10 f72b15) Q ts os := id rfl
def f72r17 : List AI := [⟨none, (.bin 18 .eql (.t 3) (.v (.k (.c (.int .i64 7)))))⟩, ⟨none, (.mov 17 (.t 18))⟩]
theorem uf72r17 : type_of% @f72r17.eq_1 := id @f72r17.eq_1
def f72b18 : AQ := (.seq (.region f72r17) f72b16)
theorem uf72b18 (P ts os Q) : awl P f72b18 Q ts os = awl P (.seq (.region f72r17) f72b16) Q ts os := id rfl
def f72b19 : AQ := (.cond (.t 13) f72b8 f72b18)
theorem uf72b19 (P ts os Q) : awl P f72b19 Q ts os = awl P (.cond (.t 13) f72b8 f72b18) Q ts os := id rfl
def f72r20 : List AI := [⟨none, (.bin 14 .eql (.t 3) (.v (.k (.c (.int .i64 6)))))⟩, ⟨none, (.mov 13 (.t 14))⟩]
theorem uf72r20 : type_of% @f72r20.eq_1 := id @f72r20.eq_1
def f72b21 : AQ := (.seq (.region f72r20) f72b19)
theorem uf72b21 (P ts os Q) : awl P f72b21 Q ts os = awl P (.seq (.region f72r20) f72b19) Q ts os := id rfl
def f72b22 : AQ := (.cond (.t 8) f72b6 f72b21)
theorem uf72b22 (P ts os Q) : awl P f72b22 Q ts os = awl P (.cond (.t 8) f72b6 f72b21) Q ts os := id rfl
def f72r23 : List AI := [⟨none, (.bin 10 .eql (.t 3) (.v (.k (.c (.int .i64 5)))))⟩, ⟨none, (.mov 8 (.t 10))⟩]
theorem uf72r23 : type_of% @f72r23.eq_1 := id @f72r23.eq_1
def f72b24 : AQ := (.cond (.t 8) .skip (.region f72r23))
theorem uf72b24 (P ts os Q) : awl P f72b24 Q ts os = awl P (.cond (.t 8) .skip (.region f72r23)) Q ts os := id rfl
def f72r25 : List AI := [⟨none, (.bin 9 .eql (.t 3) (.v (.k (.c (.int .i64 4)))))⟩, ⟨none, (.mov 8 (.t 9))⟩]
theorem uf72r25 : type_of% @f72r25.eq_1 := id @f72r25.eq_1
def f72b26 : AQ := (.seq (.region f72r25) f72b24)
theorem uf72b26 (P ts os Q) : awl P f72b26 Q ts os = awl P (.seq (.region f72r25) f72b24) Q ts os := id rfl
def f72b27 : AQ := (.seq f72b26 f72b22)
theorem uf72b27 (P ts os Q) : awl P f72b27 Q ts os = awl P (.seq f72b26 f72b22) Q ts os := id rfl
def f72b28 : AQ := (.cond (.t 4) f72b4 f72b27)
theorem uf72b28 (P ts os Q) : awl P f72b28 Q ts os = awl P (.cond (.t 4) f72b4 f72b27) Q ts os := id rfl
def f72r29 : List AI := [⟨none, (.bin 5 .eql (.t 3) (.v (.k (.c (.int .i64 3)))))⟩, ⟨none, (.mov 4 (.t 5))⟩]
theorem uf72r29 : type_of% @f72r29.eq_1 := id @f72r29.eq_1
def f72b30 : AQ := (.seq (.region f72r29) f72b28)
theorem uf72b30 (P ts os Q) : awl P f72b30 Q ts os = awl P (.seq (.region f72r29) f72b28) Q ts os := id rfl
def f72b31 : AQ := (.block 0 f72b30)
theorem uf72b31 (P ts os Q) : awl P f72b31 Q ts os = awl P (.block 0 f72b30) Q ts os := id rfl
def f72r32 : List AI := [⟨none, (.mov 3 (.t 0))⟩]
theorem uf72r32 : type_of% @f72r32.eq_1 := id @f72r32.eq_1
def f72b33 : AQ := (.seq (.region f72r32) f72b31)
theorem uf72b33 (P ts os Q) : awl P f72b33 Q ts os = awl P (.seq (.region f72r32) f72b31) Q ts os := id rfl
def f72b34 : AQ := (.seq f72b33 f72b2)
theorem uf72b34 (P ts os Q) : awl P f72b34 Q ts os = awl P (.seq f72b33 f72b2) Q ts os := id rfl
def f72r35 : List AI := [⟨none, (.alloc 2 92 [(.list 0 (some true) []), (.int .i64 0)])⟩]
theorem uf72r35 : type_of% @f72r35.eq_1 := id @f72r35.eq_1
def f72b36 : AQ := (.seq (.region f72r35) f72b34)
theorem uf72b36 (P ts os Q) : awl P f72b36 Q ts os = awl P (.seq (.region f72r35) f72b34) Q ts os := id rfl
def f72 : AQ := f72b36
theorem uf72 (P ts os Q) : awl P f72 Q ts os = awl P f72b36 Q ts os := id rfl
theorem hf72 : cFunc Try.prog 72 = some ⟨27, f72.erase, [(RX.cell 2 2 true)]⟩ := by kernel_rfl
theorem okf72 : f72.ok = true := by kernel_rfl
def f76r1 : List AI := [⟨none, (.faddr 37 0 (.t 2))⟩, ⟨none, (.load 38 1 false (.t 37))⟩, ⟨none, (.mov 39 (.t 1))⟩, ⟨none, (.iaddr 40 2 (.t 38) (.t 39))⟩, ⟨none, (.faddr 41 1 (.t 40))⟩, ⟨none, (.load 42 1 false (.t 41))⟩, ⟨none, (.call (some 43) 93 [(.t 42)])⟩, ⟨none, (.build 44 [(.bool false), (.int .i64 0)] [(0, (1, (.v (.k (.c (.bool true)))))), (1, (1, (.t 43)))])⟩, ⟨none, (.store 2 (.t 4) (.t 44))⟩]
theorem uf76r1 : type_of% @f76r1.eq_1 := id @f76r1.eq_1
def f76b2 : AQ := (.seq (.region f76r1) .ret)
theorem uf76b2 (P ts os Q) : awl P f76b2 Q ts os = awl P (.seq (.region f76r1) .ret) Q ts os := id rfl
def f76r3 : List AI := [⟨none, (.faddr 29 0 (.t 2))⟩, ⟨none, (.load 30 1 false (.t 29))⟩, ⟨none, (.mov 31 (.t 1))⟩, ⟨none, (.iaddr 32 2 (.t 30) (.t 31))⟩, ⟨none, (.faddr 33 1 (.t 32))⟩, ⟨none, (.load 34 1 false (.t 33))⟩, ⟨none, (.bin 35 .neq (.t 34) (.v (.k (.c (.int .i64 0)))))⟩, ⟨none, (.call (some 36) 94 [(.t 35)])⟩, ⟨none, (.store 2 (.t 4) (.t 36))⟩]
theorem uf76r3 : type_of% @f76r3.eq_1 := id @f76r3.eq_1
def f76b4 : AQ := (.seq (.region f76r3) .ret)
theorem uf76b4 (P ts os Q) : awl P f76b4 Q ts os = awl P (.seq (.region f76r3) .ret) Q ts os := id rfl
def f76b5 : AQ := (.cond (.t 28) f76b4 .skip)
theorem uf76b5 (P ts os Q) : awl P f76b5 Q ts os = awl P (.cond (.t 28) f76b4 .skip) Q ts os := id rfl
def f76r6 : List AI := [⟨none, (.mov 27 (.t 5))⟩, ⟨none, (.bin 28 .eql (.t 27) (.v (.k (.c (.int .i64 1)))))⟩]
theorem uf76r6 : type_of% @f76r6.eq_1 := id @f76r6.eq_1
def f76b7 : AQ := (.seq (.region f76r6) f76b5)
theorem uf76b7 (P ts os Q) : awl P f76b7 Q ts os = awl P (.seq (.region f76r6) f76b5) Q ts os := id rfl
def f76r8 : List AI := [⟨none, (.mov 23 (.t 1))⟩, ⟨none, (.call (some 24) 33 [(.t 23)])⟩, ⟨none, (.mov 22 (.t 24))⟩, ⟨none, (.extr 25 (.t 22) 0)⟩, ⟨none, (.extr 26 (.t 22) 1)⟩, ⟨none, (.mov 5 (.t 25))⟩, ⟨none, (.mov 6 (.t 26))⟩]
theorem uf76r8 : type_of% @f76r8.eq_1 := id @f76r8.eq_1
def f76b9 : AQ := (.seq (.region f76r8) f76b7)
theorem uf76b9 (P ts os Q) : awl P f76b9 Q ts os = awl P (.seq (.region f76r8) f76b7) Q ts os := id rfl
def f76b10 : AQ := (.seq f76b9 f76b2)
theorem uf76b10 (P ts os Q) : awl P f76b10 Q ts os = awl P (.seq f76b9 f76b2) Q ts os := id rfl
def f76r11 : List AI := [⟨none, (.build 21 [(.bool false), (.int .i64 0)] [])⟩, ⟨none, (.store 2 (.t 4) (.t 21))⟩]
theorem uf76r11 : type_of% @f76r11.eq_1 := id @f76r11.eq_1
def f76b12 : AQ := (.seq (.region f76r11) .ret)
theorem uf76b12 (P ts os Q) : awl P f76b12 Q ts os = awl P (.seq (.region f76r11) .ret) Q ts os := id rfl
def f76b13 : AQ := (.cond (.t 20) f76b12 .skip)
theorem uf76b13 (P ts os Q) : awl P f76b13 Q ts os = awl P (.cond (.t 20) f76b12 .skip) Q ts os := id rfl
def f76r14 : List AI := [⟨none, (.mov 7 (.t 1))⟩, ⟨none, (.faddr 8 0 (.t 2))⟩, ⟨none, (.load 9 1 false (.t 8))⟩, ⟨none, (.len 10 (.t 9))⟩, ⟨none, (.bin 11 .geq (.t 7) (.t 10))⟩, ⟨none, (.mov 12 (.t 11))⟩, ⟨(some (12, false)), (.faddr 13 0 (.t 2))⟩, ⟨(some (12, false)), (.load 14 1 false (.t 13))⟩, ⟨(some (12, false)), (.mov 15 (.t 1))⟩, ⟨(some (12, false)), (.iaddr 16 2 (.t 14) (.t 15))⟩, ⟨(some (12, false)), (.faddr 17 0 (.t 16))⟩, ⟨(some (12, false)), (.load 18 1 false (.t 17))⟩, ⟨(some (12, false)), (.un 19 .not (.t 18))⟩, ⟨none, (.pick 20 (.t 12) (.v (.k (.c (.bool true)))) (.t 19))⟩]
theorem uf76r14 : type_of% @f76r14.eq_1 := id @f76r14.eq_1
def f76b15 : AQ := (.seq (.region f76r14) f76b13)
theorem uf76b15 (P ts os Q) : awl P f76b15 Q ts os = awl P (.seq (.region f76r14) f76b13) Q ts os := id rfl
def f76b16 : AQ := (.seq f76b15 f76b10)
theorem uf76b16 (P ts os Q) : awl P f76b16 Q ts os = awl P (.seq f76b15 f76b10) Q ts os := id rfl
def f76r17 : List AI := [⟨none, (.box 2 83 (.t 0))⟩, ⟨none, (.alloc 4 53 [(.bool false), (.int .i64 0)])⟩]
theorem uf76r17 : type_of% @f76r17.eq_1 := id @f76r17.eq_1
def f76b18 : AQ := (.seq (.region f76r17) f76b16)
theorem uf76b18 (P ts os Q) : awl P f76b18 Q ts os = awl P (.seq (.region f76r17) f76b16) Q ts os := id rfl
def f76 : AQ := f76b18
theorem uf76 (P ts os Q) : awl P f76 Q ts os = awl P f76b18 Q ts os := id rfl
theorem hf76 : cFunc Try.prog 76 = some ⟨45, f76.erase, [(RX.cell 4 2 true)]⟩ := by kernel_rfl
theorem okf76 : f76.ok = true := by kernel_rfl
def f77r1 : List AI := [⟨none, (.mov 100 (.t 0))⟩, ⟨none, (.mov 101 (.t 6))⟩, ⟨none, (.mov 102 (.t 7))⟩, ⟨none, (.call (some 103) 95 [(.t 100), (.t 101), (.t 102)])⟩, ⟨none, (.build 104 [(.bool false), (.int .i64 0)] [(0, (1, (.v (.k (.c (.bool true)))))), (1, (1, (.t 103)))])⟩, ⟨none, (.store 2 (.t 4) (.t 104))⟩]
theorem uf77r1 : type_of% @f77r1.eq_1 := id @f77r1.eq_1
def f77b2 : AQ := (.seq (.region f77r1) .ret)
theorem uf77b2 (P ts os Q) : awl P f77b2 Q ts os = awl P (.seq (.region f77r1) .ret) Q ts os := id rfl
def f77r3 : List AI := [⟨none, (.mov 85 (.t 0))⟩, ⟨none, (.bin 86 .eql (.t 85) (.v (.k (.c (.int .i64 4)))))⟩, ⟨none, (.call (some 87) 94 [(.t 86)])⟩, ⟨none, (.store 2 (.t 4) (.t 87))⟩]
theorem uf77r3 : type_of% @f77r3.eq_1 := id @f77r3.eq_1
def f77b4 : AQ := (.seq (.region f77r3) .ret)
theorem uf77b4 (P ts os Q) : awl P f77b4 Q ts os = awl P (.seq (.region f77r3) .ret) Q ts os := id rfl
def f77r5 : List AI := [⟨none, (.mov 90 (.t 6))⟩, ⟨none, (.mov 91 (.t 7))⟩, ⟨none, (.bin 92 .lss (.t 90) (.t 91))⟩, ⟨none, (.call (some 93) 94 [(.t 92)])⟩, ⟨none, (.store 2 (.t 4) (.t 93))⟩]
theorem uf77r5 : type_of% @f77r5.eq_1 := id @f77r5.eq_1
def f77b6 : AQ := (.seq (.region f77r5) .ret)
theorem uf77b6 (P ts os Q) : awl P f77b6 Q ts os = awl P (.seq (.region f77r5) .ret) Q ts os := id rfl
def f77r7 : List AI := [⟨none, (.mov 96 (.t 6))⟩, ⟨none, (.mov 97 (.t 7))⟩, ⟨none, (.bin 98 .eql (.t 96) (.t 97))⟩, ⟨none, (.call (some 99) 94 [(.t 98)])⟩, ⟨none, (.store 2 (.t 4) (.t 99))⟩]
theorem uf77r7 : type_of% @f77r7.eq_1 := id @f77r7.eq_1
def f77b8 : AQ := (.seq (.region f77r7) .ret)
theorem uf77b8 (P ts os Q) : awl P f77b8 Q ts os = awl P (.seq (.region f77r7) .ret) Q ts os := id rfl
def f77b9 : AQ := (.cond (.t 94) f77b8 .skip)
theorem uf77b9 (P ts os Q) : awl P f77b9 Q ts os = awl P (.cond (.t 94) f77b8 .skip) Q ts os := id rfl
def f77r10 : List AI := [⟨none, (.bin 95 .eql (.t 81) (.v (.k (.c (.int .i64 8)))))⟩, ⟨none, (.mov 94 (.t 95))⟩]
theorem uf77r10 : type_of% @f77r10.eq_1 := id @f77r10.eq_1
def f77b11 : AQ := (.seq (.region f77r10) f77b9)
theorem uf77b11 (P ts os Q) : awl P f77b11 Q ts os = awl P (.seq (.region f77r10) f77b9) Q ts os := id rfl
def f77b12 : AQ := (.cond (.t 88) f77b6 f77b11)
theorem uf77b12 (P ts os Q) : awl P f77b12 Q ts os = awl P (.cond (.t 88) f77b6 f77b11) Q ts os := id rfl
def f77r13 : List AI := [⟨none, (.bin 89 .eql (.t 81) (.v (.k (.c (.int .i64 7)))))⟩, ⟨none, (.mov 88 (.t 89))⟩]
theorem uf77r13 : type_of% @f77r13.eq_1 := id @f77r13.eq_1
def f77b14 : AQ := (.seq (.region f77r13) f77b12)
theorem uf77b14 (P ts os Q) : awl P f77b14 Q ts os = awl P (.seq (.region f77r13) f77b12) Q ts os := id rfl
def f77b15 : AQ := (.cond (.t 82) f77b4 f77b14)
theorem uf77b15 (P ts os Q) : awl P f77b15 Q ts os = awl P (.cond (.t 82) f77b4 f77b14) Q ts os := id rfl
def f77r16 : List AI := [⟨none, (.bin 84 .eql (.t 81) (.v (.k (.c (.int .i64 5)))))⟩, ⟨none, (.mov 82 (.t 84))⟩]
theorem uf77r16 : type_of% @f77r16.eq_1 := id @f77r16.eq_1
def f77b17 : AQ := (.cond (.t 82) .skip (.region f77r16))
theorem uf77b17 (P ts os Q) : awl P f77b17 Q ts os = awl P (.cond (.t 82) .skip (.region f77r16)) Q ts os := id rfl
def f77r18 : List AI := [⟨none, (.bin 83 .eql (.t 81) (.v (.k (.c (.int .i64 4)))))⟩, ⟨none, (.mov 82 (.t 83))⟩]
theorem uf77r18 : type_of% @f77r18.eq_1 := id @f77r18.eq_1
def f77b19 : AQ := (.seq (.region f77r18) f77b17)
theorem uf77b19 (P ts os Q) : awl P f77b19 Q ts os = awl P (.seq (.region f77r18) f77b17) Q ts os := id rfl
def f77b20 : AQ := (.seq f77b19 f77b15)
theorem uf77b20 (P ts os Q) : awl P f77b20 Q ts os = awl P (.seq f77b19 f77b15) Q ts os := id rfl
def f77b21 : AQ := (.block 1 f77b20)
theorem uf77b21 (P ts os Q) : awl P f77b21 Q ts os = awl P (.block 1 f77b20) Q ts os := id rfl
def f77r22 : List AI := [⟨none, (.mov 81 (.t 0))⟩]
theorem uf77r22 : type_of% @f77r22.eq_1 := id @f77r22.eq_1
def f77b23 : AQ := (.seq (.region f77r22) f77b21)
theorem uf77b23 (P ts os Q) : awl P f77b23 Q ts os = awl P (.seq (.region f77r22) f77b21) Q ts os := id rfl
def f77b24 : AQ := (.seq f77b23 f77b2)
theorem uf77b24 (P ts os Q) : awl P f77b24 Q ts os = awl P (.seq f77b23 f77b2) Q ts os := id rfl
def f77r25 : List AI := [⟨none, (.mov 73 (.t 1))⟩, ⟨none, (.iaddr 74 2 (.t 73) (.v (.k (.c (.int .i64 0)))))⟩, ⟨none, (.faddr 75 1 (.t 74))⟩, ⟨none, (.load 76 1 false (.t 75))⟩, ⟨none, (.mov 77 (.t 1))⟩, ⟨none, (.iaddr 78 2 (.t 77) (.v (.k (.c (.int .i64 1)))))⟩, ⟨none, (.faddr 79 1 (.t 78))⟩, ⟨none, (.load 80 1 false (.t 79))⟩, ⟨none, (.mov 6 (.t 76))⟩, ⟨none, (.mov 7 (.t 80))⟩]
theorem uf77r25 : type_of% @f77r25.eq_1 := id @f77r25.eq_1
def f77b26 : AQ := (.seq (.draw f77r25 [[], [0], [1], [2], [], [4], [5], [6], [3, 0, 1, 2, 3], [7, 8, 0, 1, 2, 3, 4, 5, 6, 7, 8]]) f77b24)
theorem uf77b26 (P ts os Q) : awl P f77b26 Q ts os = awl P (.seq (.draw f77r25 [[], [0], [1], [2], [], [4], [5], [6], [3, 0, 1, 2, 3], [7, 8, 0, 1, 2, 3, 4, 5, 6, 7, 8]]) f77b24) Q ts os := id rfl
def f77r27 : List AI := [⟨none, (.build 72 [(.bool false), (.int .i64 0)] [])⟩, ⟨none, (.store 2 (.t 4) (.t 72))⟩]
theorem uf77r27 : type_of% @f77r27.eq_1 := id @f77r27.eq_1
def f77b28 : AQ := (.seq (.region f77r27) .ret)
theorem uf77b28 (P ts os Q) : awl P f77b28 Q ts os = awl P (.seq (.region f77r27) .ret) Q ts os := id rfl
def f77b29 : AQ := (.cond (.t 71) f77b28 .skip)
theorem uf77b29 (P ts os Q) : awl P f77b29 Q ts os = awl P (.cond (.t 71) f77b28 .skip) Q ts os := id rfl
def f77r30 : List AI := [⟨none, (.mov 60 (.t 1))⟩, ⟨none, (.iaddr 61 2 (.t 60) (.v (.k (.c (.int .i64 0)))))⟩, ⟨none, (.faddr 62 0 (.t 61))⟩, ⟨none, (.load 63 1 false (.t 62))⟩, ⟨none, (.un 64 .not (.t 63))⟩, ⟨none, (.mov 65 (.t 64))⟩, ⟨(some (65, false)), (.mov 66 (.t 1))⟩, ⟨(some (65, false)), (.iaddr 67 2 (.t 66) (.v (.k (.c (.int .i64 1)))))⟩, ⟨(some (65, false)), (.faddr 68 0 (.t 67))⟩, ⟨(some (65, false)), (.load 69 1 false (.t 68))⟩, ⟨(some (65, false)), (.un 70 .not (.t 69))⟩, ⟨none, (.pick 71 (.t 65) (.v (.k (.c (.bool true)))) (.t 70))⟩]
theorem uf77r30 : type_of% @f77r30.eq_1 := id @f77r30.eq_1
def f77b31 : AQ := (.seq (.region f77r30) f77b29)
theorem uf77b31 (P ts os Q) : awl P f77b31 Q ts os = awl P (.seq (.region f77r30) f77b29) Q ts os := id rfl
def f77b32 : AQ := (.seq f77b31 f77b26)
theorem uf77b32 (P ts os Q) : awl P f77b32 Q ts os = awl P (.seq f77b31 f77b26) Q ts os := id rfl
def f77r33 : List AI := [⟨none, (.build 21 [(.bool false), (.int .i64 0)] [])⟩, ⟨none, (.store 2 (.t 4) (.t 21))⟩]
theorem uf77r33 : type_of% @f77r33.eq_1 := id @f77r33.eq_1
def f77b34 : AQ := (.seq (.region f77r33) .ret)
theorem uf77b34 (P ts os Q) : awl P f77b34 Q ts os = awl P (.seq (.region f77r33) .ret) Q ts os := id rfl
def f77r35 : List AI := [⟨none, (.mov 15 (.t 1))⟩, ⟨none, (.iaddr 16 2 (.t 15) (.v (.k (.c (.int .i64 0)))))⟩, ⟨none, (.faddr 17 1 (.t 16))⟩, ⟨none, (.load 18 1 false (.t 17))⟩, ⟨none, (.bin 19 .eql (.t 18) (.v (.k (.c (.int .i64 0)))))⟩, ⟨none, (.call (some 20) 94 [(.t 19)])⟩, ⟨none, (.store 2 (.t 4) (.t 20))⟩]
theorem uf77r35 : type_of% @f77r35.eq_1 := id @f77r35.eq_1
def f77b36 : AQ := (.seq (.region f77r35) .ret)
theorem uf77b36 (P ts os Q) : awl P f77b36 Q ts os = awl P (.seq (.region f77r35) .ret) Q ts os := id rfl
def f77b37 : AQ := (.cond (.t 14) f77b36 .skip)
theorem uf77b37 (P ts os Q) : awl P f77b37 Q ts os = awl P (.cond (.t 14) f77b36 .skip) Q ts os := id rfl
def f77r38 : List AI := [⟨none, (.mov 11 (.t 1))⟩, ⟨none, (.iaddr 12 2 (.t 11) (.v (.k (.c (.int .i64 0)))))⟩, ⟨none, (.faddr 13 0 (.t 12))⟩, ⟨none, (.load 14 1 false (.t 13))⟩]
theorem uf77r38 : type_of% @f77r38.eq_1 := id @f77r38.eq_1
def f77b39 : AQ := (.seq (.region f77r38) f77b37)
theorem uf77b39 (P ts os Q) : awl P f77b39 Q ts os = awl P (.seq (.region f77r38) f77b37) Q ts os := id rfl
def f77b40 : AQ := (.seq f77b39 f77b34)
theorem uf77b40 (P ts os Q) : awl P f77b40 Q ts os = awl P (.seq f77b39 f77b34) Q ts os := id rfl
def f77r41 : List AI := [⟨none, (.load 40 2 true (.t 5))⟩, ⟨none, (.store 2 (.t 4) (.t 40))⟩]
theorem uf77r41 : type_of% @f77r41.eq_1 := id @f77r41.eq_1
def f77b42 : AQ := (.seq (.region f77r41) .ret)
theorem uf77b42 (P ts os Q) : awl P f77b42 Q ts os = awl P (.seq (.region f77r41) .ret) Q ts os := id rfl
def f77b43 : AQ := (.cond (.t 39) f77b42 .skip)
theorem uf77b43 (P ts os Q) : awl P f77b43 Q ts os = awl P (.cond (.t 39) f77b42 .skip) Q ts os := id rfl
def f77r44 : List AI := [⟨none, (.mov 28 (.t 1))⟩, ⟨none, (.iaddr 29 2 (.t 28) (.v (.k (.c (.int .i64 0)))))⟩, ⟨none, (.load 30 2 true (.t 29))⟩, ⟨none, (.load 31 2 true (.t 5))⟩, ⟨none, (.eqAgg 32 false [.bool, .int] (.t 30) (.t 31))⟩, ⟨none, (.mov 33 (.t 32))⟩, ⟨(some (33, false)), (.mov 34 (.t 1))⟩, ⟨(some (33, false)), (.iaddr 35 2 (.t 34) (.v (.k (.c (.int .i64 1)))))⟩, ⟨(some (33, false)), (.load 36 2 true (.t 35))⟩, ⟨(some (33, false)), (.load 37 2 true (.t 5))⟩, ⟨(some (33, false)), (.eqAgg 38 false [.bool, .int] (.t 36) (.t 37))⟩, ⟨none, (.pick 39 (.t 33) (.v (.k (.c (.bool true)))) (.t 38))⟩]
theorem uf77r44 : type_of% @f77r44.eq_1 := id @f77r44.eq_1
def f77b45 : AQ := (.seq (.draw f77r44 [[], [0], [1], [], [2, 3], [4], [5], [6, 5], [7, 5], [5], [8, 9, 5], [5, 10]]) f77b43)
theorem uf77b45 (P ts os Q) : awl P f77b45 Q ts os = awl P (.seq (.draw f77r44 [[], [0], [1], [], [2, 3], [4], [5], [6, 5], [7, 5], [5], [8, 9, 5], [5, 10]]) f77b43) Q ts os := id rfl
def f77r46 : List AI := [⟨none, (.mov 25 (.t 0))⟩, ⟨none, (.bin 26 .eql (.t 25) (.v (.k (.c (.int .i64 5)))))⟩, ⟨none, (.call (some 27) 94 [(.t 26)])⟩, ⟨none, (.alloc 5 53 [(.bool false), (.int .i64 0)])⟩, ⟨none, (.store 2 (.t 5) (.t 27))⟩]
theorem uf77r46 : type_of% @f77r46.eq_1 := id @f77r46.eq_1
def f77b47 : AQ := (.seq (.region f77r46) f77b45)
theorem uf77b47 (P ts os Q) : awl P f77b47 Q ts os = awl P (.seq (.region f77r46) f77b45) Q ts os := id rfl
def f77r48 : List AI := [⟨none, (.build 59 [(.bool false), (.int .i64 0)] [])⟩, ⟨none, (.store 2 (.t 4) (.t 59))⟩]
theorem uf77r48 : type_of% @f77r48.eq_1 := id @f77r48.eq_1
def f77b49 : AQ := (.seq (.region f77r48) .ret)
theorem uf77b49 (P ts os Q) : awl P f77b49 Q ts os = awl P (.seq (.region f77r48) .ret) Q ts os := id rfl
def f77r50 : List AI := [⟨none, (.mov 56 (.t 1))⟩, ⟨none, (.iaddr 57 2 (.t 56) (.v (.k (.c (.int .i64 1)))))⟩, ⟨none, (.load 58 2 true (.t 57))⟩, ⟨none, (.store 2 (.t 4) (.t 58))⟩]
theorem uf77r50 : type_of% @f77r50.eq_1 := id @f77r50.eq_1
def f77b51 : AQ := (.seq (.region f77r50) .ret)
theorem uf77b51 (P ts os Q) : awl P f77b51 Q ts os = awl P (.seq (.region f77r50) .ret) Q ts os := id rfl
def f77b52 : AQ := (.cond (.t 55) f77b51 .skip)
theorem uf77b52 (P ts os Q) : awl P f77b52 Q ts os = awl P (.cond (.t 55) f77b51 .skip) Q ts os := id rfl
def f77r53 : List AI := [⟨none, (.mov 43 (.t 1))⟩, ⟨none, (.iaddr 44 2 (.t 43) (.v (.k (.c (.int .i64 1)))))⟩, ⟨none, (.faddr 45 0 (.t 44))⟩, ⟨none, (.load 46 1 false (.t 45))⟩, ⟨none, (.mov 47 (.t 46))⟩, ⟨(some (47, true)), (.mov 48 (.t 1))⟩, ⟨(some (47, true)), (.iaddr 49 2 (.t 48) (.v (.k (.c (.int .i64 1)))))⟩, ⟨(some (47, true)), (.load 50 2 true (.t 49))⟩, ⟨(some (47, true)), (.mov 51 (.t 1))⟩, ⟨(some (47, true)), (.iaddr 52 2 (.t 51) (.v (.k (.c (.int .i64 2)))))⟩, ⟨(some (47, true)), (.load 53 2 true (.t 52))⟩, ⟨(some (47, true)), (.eqAgg 54 false [.bool, .int] (.t 50) (.t 53))⟩, ⟨none, (.pick 55 (.t 47) (.t 54) (.v (.k (.c (.bool false)))))⟩]
theorem uf77r53 : type_of% @f77r53.eq_1 := id @f77r53.eq_1
def f77b54 : AQ := (.seq (.draw f77r53 [[], [0], [1], [2], [3], [4], [5, 4], [6, 4], [4], [8, 4], [9, 4], [7, 10, 4], [4, 11]]) f77b52)
theorem uf77b54 (P ts os Q) : awl P f77b54 Q ts os = awl P (.seq (.draw f77r53 [[], [0], [1], [2], [3], [4], [5, 4], [6, 4], [4], [8, 4], [9, 4], [7, 10, 4], [4, 11]]) f77b52) Q ts os := id rfl
def f77b55 : AQ := (.seq f77b54 f77b49)
theorem uf77b55 (P ts os Q) : awl P f77b55 Q ts os = awl P (.seq f77b54 f77b49) Q ts os := id rfl
def f77b56 : AQ := (.cond (.t 41) f77b55 .skip)
theorem uf77b56 (P ts os Q) : awl P f77b56 Q ts os = awl P (.cond (.t 41) f77b55 .skip) Q ts os := id rfl
def f77r57 : List AI := [⟨none, (.bin 42 .eql (.t 8) (.v (.k (.c (.int .i64 6)))))⟩, ⟨none, (.mov 41 (.t 42))⟩]
theorem uf77r57 : type_of% @f77r57.eq_1 := id @f77r57.eq_1
def f77b58 : AQ := (.seq (.region f77r57) f77b56)
theorem uf77b58 (P ts os Q) : awl P f77b58 Q ts os = awl P (.seq (.region f77r57) f77b56) Q ts os := id rfl
def f77b59 : AQ := (.cond (.t 22) f77b47 f77b58)
theorem uf77b59 (P ts os Q) : awl P f77b59 Q ts os = awl P (.cond (.t 22) f77b47 f77b58) Q ts os := id rfl
def f77r60 : List AI := [⟨none, (.bin 24 .eql (.t 8) (.v (.k (.c (.int .i64 5)))))⟩, ⟨none, (.mov 22 (.t 24))⟩]
theorem uf77r60 : type_of% @f77r60.eq_1 := id @f77r60.eq_1
def f77b61 : AQ := (.cond (.t 22) .skip (.region f77r60))
theorem uf77b61 (P ts os Q) : awl P f77b61 Q ts os = awl P (.cond (.t 22) .skip (.region f77r60)) Q ts os := id rfl
def f77r62 : List AI := [⟨none, (.bin 23 .eql (.t 8) (.v (.k (.c (.int .i64 4)))))⟩, ⟨none, (.mov 22 (.t 23))⟩]
theorem uf77r62 : type_of% @f77r62.eq_1 := id @f77r62.eq_1
def f77b63 : AQ := (.seq (.region f77r62) f77b61)
theorem uf77b63 (P ts os Q) : awl P f77b63 Q ts os = awl P (.seq (.region f77r62) f77b61) Q ts os := id rfl
def f77b64 : AQ := (.seq f77b63 f77b59)
theorem uf77b64 (P ts os Q) : awl P f77b64 Q ts os = awl P (.seq f77b63 f77b59) Q ts os := id rfl
def f77b65 : AQ := (.cond (.t 9) f77b40 f77b64)
theorem uf77b65 (P ts os Q) : awl P f77b65 Q ts os = awl P (.cond (.t 9) f77b40 f77b64) Q ts os := id rfl
def f77r66 : List AI := [⟨none, (.bin 10 .eql (.t 8) (.v (.k (.c (.int .i64 3)))))⟩, ⟨none, (.mov 9 (.t 10))⟩]
theorem uf77r66 : type_of% @f77r66.eq_1 := id @f77r66.eq_1
def f77b67 : AQ := (.seq (.region f77r66) f77b65)
theorem uf77b67 (P ts os Q) : awl P f77b67 Q ts os = awl P (.seq (.region f77r66) f77b65) Q ts os := id rfl
def f77b68 : AQ := (.block 0 f77b67)
theorem uf77b68 (P ts os Q) : awl P f77b68 Q ts os = awl P (.block 0 f77b67) Q ts os := id rfl
def f77r69 : List AI := [⟨none, (.mov 8 (.t 0))⟩]
theorem uf77r69 : type_of% @f77r69.eq_1 := id @f77r69.eq_1
def f77b70 : AQ := (.seq (.region f77r69) f77b68)
theorem uf77b70 (P ts os Q) : awl P f77b70 Q ts os = awl P (.seq (.region f77r69) f77b68) Q ts os := id rfl
def f77b71 : AQ := (.seq f77b70 f77b32)
theorem uf77b71 (P ts os Q) : awl P f77b71 Q ts os = awl P (.seq f77b70 f77b32) Q ts os := id rfl
def f77r72 : List AI := [⟨none, (.alloc 4 53 [(.bool false), (.int .i64 0)])⟩]
theorem uf77r72 : type_of% @f77r72.eq_1 := id @f77r72.eq_1
def f77b73 : AQ := (.seq (.region f77r72) f77b71)
theorem uf77b73 (P ts os Q) : awl P f77b73 Q ts os = awl P (.seq (.region f77r72) f77b71) Q ts os := id rfl
def f77 : AQ := f77b73
theorem uf77 (P ts os Q) : awl P f77 Q ts os = awl P f77b73 Q ts os := id rfl
theorem hf77 : cFunc Try.prog 77 = some ⟨105, f77.erase, [(RX.cell 4 2 true)]⟩ := by kernel_rfl
theorem okf77 : f77.ok = true := by kernel_rfl
def f78r1 : List AI := [⟨none, (.mov 35 (.t 6))⟩, ⟨none, (.mov 2 (.t 35))⟩]
theorem uf78r1 : type_of% @f78r1.eq_1 := id @f78r1.eq_1
def f78b2 : AQ := (.seq (.region f78r1) .ret)
theorem uf78b2 (P ts os Q) : awl P f78b2 Q ts os = awl P (.seq (.region f78r1) .ret) Q ts os := id rfl
def f78r3 : List AI := [⟨none, (.bin 34 .add (.t 27) (.v (.k (.c (.int .i64 1)))))⟩, ⟨none, (.mov 27 (.t 34))⟩]
theorem uf78r3 : type_of% @f78r3.eq_1 := id @f78r3.eq_1
def f78r4 : List AI := [⟨none, (.mov 31 (.t 6))⟩, ⟨none, (.mov 32 (.t 8))⟩, ⟨none, (.append 33 3 1 8 (.t 31) (.t 32))⟩, ⟨none, (.mov 6 (.t 33))⟩]
theorem uf78r4 : type_of% @f78r4.eq_1 := id @f78r4.eq_1
def f78r5 : List AI := [⟨none, (.iaddr 29 1 (.t 25) (.t 27))⟩, ⟨none, (.load 30 1 false (.t 29))⟩, ⟨none, (.mov 8 (.t 30))⟩]
theorem uf78r5 : type_of% @f78r5.eq_1 := id @f78r5.eq_1
def f78b6 : AQ := (.seq (.region f78r5) (.region f78r4))
theorem uf78b6 (P ts os Q) : awl P f78b6 Q ts os = awl P (.seq (.region f78r5) (.region f78r4)) Q ts os := id rfl
def f78b7 : AQ := (.block 3 f78b6)
theorem uf78b7 (P ts os Q) : awl P f78b7 Q ts os = awl P (.block 3 f78b6) Q ts os := id rfl
def f78b8 : AQ := (.seq f78b7 (.region f78r3))
theorem uf78b8 (P ts os Q) : awl P f78b8 Q ts os = awl P (.seq f78b7 (.region f78r3)) Q ts os := id rfl
def f78b9 : AQ := (.cond (.t 28) .skip (.exit 2))
theorem uf78b9 (P ts os Q) : awl P f78b9 Q ts os = awl P (.cond (.t 28) .skip (.exit 2)) Q ts os := id rfl
def f78b10 : AQ := (.seq f78b9 f78b8)
theorem uf78b10 (P ts os Q) : awl P f78b10 Q ts os = awl P (.seq f78b9 f78b8) Q ts os := id rfl
def f78r11 : List AI := [⟨none, (.bin 28 .lss (.t 27) (.t 26))⟩]
theorem uf78r11 : type_of% @f78r11.eq_1 := id @f78r11.eq_1
def f78b12 : AQ := (.seq (.region f78r11) f78b10)
theorem uf78b12 (P ts os Q) : awl P f78b12 Q ts os = awl P (.seq (.region f78r11) f78b10) Q ts os := id rfl
def f78l13 : AQ := .loop [6, 25, 26, 27] [24, 33, 25000, 25001, 25002] f78b12
theorem uf78l13 (P ts os Q) : awl P f78l13 Q ts os = awl P (.loop [6, 25, 26, 27] [24, 33, 25000, 25001, 25002] f78b12) Q ts os := id rfl
def f78b14 : AQ := (.block 2 f78l13)
theorem uf78b14 (P ts os Q) : awl P f78b14 Q ts os = awl P (.block 2 f78l13) Q ts os := id rfl
def f78r15 : List AI := [⟨none, (.mov 25 (.t 0))⟩, ⟨none, (.len 26 (.t 25))⟩, ⟨none, (.mov 27 (.v (.k (.c (.int .i64 0)))))⟩]
theorem uf78r15 : type_of% @f78r15.eq_1 := id @f78r15.eq_1
def f78b16 : AQ := (.seq (.region f78r15) f78b14)
theorem uf78b16 (P ts os Q) : awl P f78b16 Q ts os = awl P (.seq (.region f78r15) f78b14) Q ts os := id rfl
def f78b17 : AQ := (.seq f78b16 f78b2)
theorem uf78b17 (P ts os Q) : awl P f78b17 Q ts os = awl P (.seq f78b16 f78b2) Q ts os := id rfl
def f78r18 : List AI := [⟨none, (.mov 23 (.t 3))⟩, ⟨none, (.call (some 24) 96 [(.v (.k (.c (.list 0 (some true) [])))), (.t 23)])⟩, ⟨none, (.mov 6 (.t 24))⟩]
theorem uf78r18 : type_of% @f78r18.eq_1 := id @f78r18.eq_1
def f78b19 : AQ := (.seq (.region f78r18) f78b17)
theorem uf78b19 (P ts os Q) : awl P f78b19 Q ts os = awl P (.seq (.region f78r18) f78b17) Q ts os := id rfl
def f78r20 : List AI := [⟨none, (.bin 22 .add (.t 11) (.v (.k (.c (.int .i64 1)))))⟩, ⟨none, (.mov 11 (.t 22))⟩]
theorem uf78r20 : type_of% @f78r20.eq_1 := id @f78r20.eq_1
def f78b21 : AQ := (.cond (.v V.any) .skip .skip)
def f78b22 : AQ := (.cond (.t 20) f78b21 .skip)
theorem uf78b22 (P ts os Q) : awl P f78b22 Q ts os = awl P (.cond (.t 20) f78b21 .skip) Q ts os := id rfl
def f78r23 : List AI := [⟨none, (.mov 19 (.t 3))⟩, ⟨none, (.bin 20 .lss (.t 19) (.v (.k (.c (.int .i64 0)))))⟩]
theorem uf78r23 : type_of% @f78r23.eq_1 := id @f78r23.eq_1
def f78b24 : AQ := (.seq (.region f78r23) f78b22)
theorem uf78b24 (P ts os Q) : awl P f78b24 Q ts os = awl P (.seq (.region f78r23) f78b22) Q ts os := id rfl
def f78r25 : List AI := [⟨none, (.mov 15 (.t 3))⟩, ⟨none, (.mov 16 (.t 5))⟩, ⟨none, (.len 17 (.t 16))⟩, ⟨none, (.bin 18 .add (.t 15) (.t 17))⟩, ⟨none, (.mov 3 (.t 18))⟩]
theorem uf78r25 : type_of% @f78r25.eq_1 := id @f78r25.eq_1
def f78b26 : AQ := (.seq (.region f78r25) f78b24)
theorem uf78b26 (P ts os Q) : awl P f78b26 Q ts os = awl P (.seq (.region f78r25) f78b24) Q ts os := id rfl
def f78r27 : List AI := [⟨none, (.iaddr 13 1 (.t 9) (.t 11))⟩, ⟨none, (.load 14 1 false (.t 13))⟩, ⟨none, (.mov 5 (.t 14))⟩]
theorem uf78r27 : type_of% @f78r27.eq_1 := id @f78r27.eq_1
def f78b28 : AQ := (.seq (.region f78r27) f78b26)
theorem uf78b28 (P ts os Q) : awl P f78b28 Q ts os = awl P (.seq (.region f78r27) f78b26) Q ts os := id rfl
def f78b29 : AQ := (.block 1 f78b28)
theorem uf78b29 (P ts os Q) : awl P f78b29 Q ts os = awl P (.block 1 f78b28) Q ts os := id rfl
def f78b30 : AQ := (.seq f78b29 (.region f78r20))
theorem uf78b30 (P ts os Q) : awl P f78b30 Q ts os = awl P (.seq f78b29 (.region f78r20)) Q ts os := id rfl
def f78b31 : AQ := (.cond (.t 12) .skip (.exit 0))
theorem uf78b31 (P ts os Q) : awl P f78b31 Q ts os = awl P (.cond (.t 12) .skip (.exit 0)) Q ts os := id rfl
def f78b32 : AQ := (.seq f78b31 f78b30)
theorem uf78b32 (P ts os Q) : awl P f78b32 Q ts os = awl P (.seq f78b31 f78b30) Q ts os := id rfl
def f78r33 : List AI := [⟨none, (.bin 12 .lss (.t 11) (.t 10))⟩]
theorem uf78r33 : type_of% @f78r33.eq_1 := id @f78r33.eq_1
def f78b34 : AQ := (.seq (.region f78r33) f78b32)
theorem uf78b34 (P ts os Q) : awl P f78b34 Q ts os = awl P (.seq (.region f78r33) f78b32) Q ts os := id rfl
def f78l35 : AQ := .loop [0, 3, 9, 10, 11] [] f78b34
theorem uf78l35 (P ts os Q) : awl P f78l35 Q ts os = awl P (.loop [0, 3, 9, 10, 11] [] f78b34) Q ts os := id rfl
def f78b36 : AQ := (.block 0 f78l35)
theorem uf78b36 (P ts os Q) : awl P f78b36 Q ts os = awl P (.block 0 f78l35) Q ts os := id rfl
def f78r37 : List AI := [⟨none, (.mov 9 (.t 0))⟩, ⟨none, (.len 10 (.t 9))⟩, ⟨none, (.mov 11 (.v (.k (.c (.int .i64 0)))))⟩]
theorem uf78r37 : type_of% @f78r37.eq_1 := id @f78r37.eq_1
def f78b38 : AQ := (.seq (.region f78r37) f78b36)
theorem uf78b38 (P ts os Q) : awl P f78b38 Q ts os = awl P (.seq (.region f78r37) f78b36) Q ts os := id rfl
def f78b39 : AQ := (.seq f78b38 f78b19)
theorem uf78b39 (P ts os Q) : awl P f78b39 Q ts os = awl P (.seq f78b38 f78b19) Q ts os := id rfl
def f78r40 : List AI := [⟨none, (.mov 3 (.v (.k (.c (.int .i64 0)))))⟩]
theorem uf78r40 : type_of% @f78r40.eq_1 := id @f78r40.eq_1
def f78b41 : AQ := (.seq (.region f78r40) f78b39)
theorem uf78b41 (P ts os Q) : awl P f78b41 Q ts os = awl P (.seq (.region f78r40) f78b39) Q ts os := id rfl
def f78r42 : List AI := [⟨none, (.nilL 2 3 1)⟩]
theorem uf78r42 : type_of% @f78r42.eq_1 := id @f78r42.eq_1
def f78b43 : AQ := (.seq (.region f78r42) f78b41)
theorem uf78b43 (P ts os Q) : awl P f78b43 Q ts os = awl P (.seq (.region f78r42) f78b41) Q ts os := id rfl
def f78 : AQ := f78b43
theorem uf78 (P ts os Q) : awl P f78 Q ts os = awl P f78b43 Q ts os := id rfl
theorem hf78 : cFunc Try.prog 78 = some ⟨36, f78.erase, [(RX.t 2)]⟩ := by kernel_rfl
theorem okf78 : f78.ok = true := by kernel_rfl
def f93r1 : List AI := [⟨none, (.mov 3 (.t 0))⟩, ⟨none, (.minmax 4 true (.t 3) [(.v (.k (.c (.int .i64 (-1099511627776)))))])⟩, ⟨none, (.minmax 5 false (.t 4) [(.v (.k (.c (.int .i64 1099511627776))))])⟩, ⟨none, (.mov 2 (.t 5))⟩]
theorem uf93r1 : type_of% @f93r1.eq_1 := id @f93r1.eq_1
def f93b2 : AQ := (.seq (.region f93r1) .ret)
theorem uf93b2 (P ts os Q) : awl P f93b2 Q ts os = awl P (.seq (.region f93r1) .ret) Q ts os := id rfl
def f93r3 : List AI := [⟨none, (.mov 2 (.v (.k (.c (.int .i64 0)))))⟩]
theorem uf93r3 : type_of% @f93r3.eq_1 := id @f93r3.eq_1
def f93b4 : AQ := (.seq (.region f93r3) f93b2)
theorem uf93b4 (P ts os Q) : awl P f93b4 Q ts os = awl P (.seq (.region f93r3) f93b2) Q ts os := id rfl
def f93 : AQ := f93b4
theorem uf93 (P ts os Q) : awl P f93 Q ts os = awl P f93b4 Q ts os := id rfl
theorem hf93 : cFunc Try.prog 93 = some ⟨6, f93.erase, [(RX.t 2)]⟩ := by kernel_rfl
theorem okf93 : f93.ok = true := by kernel_rfl
def f94r1 : List AI := [⟨none, (.build 5 [(.bool false), (.int .i64 0)] [(0, (1, (.v (.k (.c (.bool true))))))])⟩, ⟨none, (.store 2 (.t 2) (.t 5))⟩]
theorem uf94r1 : type_of% @f94r1.eq_1 := id @f94r1.eq_1
def f94b2 : AQ := (.seq (.region f94r1) .ret)
theorem uf94b2 (P ts os Q) : awl P f94b2 Q ts os = awl P (.seq (.region f94r1) .ret) Q ts os := id rfl
def f94r3 : List AI := [⟨none, (.build 4 [(.bool false), (.int .i64 0)] [(0, (1, (.v (.k (.c (.bool true)))))), (1, (1, (.v (.k (.c (.int .i64 1))))))])⟩, ⟨none, (.store 2 (.t 2) (.t 4))⟩]
theorem uf94r3 : type_of% @f94r3.eq_1 := id @f94r3.eq_1
def f94b4 : AQ := (.seq (.region f94r3) .ret)
theorem uf94b4 (P ts os Q) : awl P f94b4 Q ts os = awl P (.seq (.region f94r3) .ret) Q ts os := id rfl
def f94b5 : AQ := (.cond (.t 3) f94b4 .skip)
theorem uf94b5 (P ts os Q) : awl P f94b5 Q ts os = awl P (.cond (.t 3) f94b4 .skip) Q ts os := id rfl
def f94r6 : List AI := [⟨none, (.mov 3 (.t 0))⟩]
theorem uf94r6 : type_of% @f94r6.eq_1 := id @f94r6.eq_1
def f94b7 : AQ := (.seq (.region f94r6) f94b5)
theorem uf94b7 (P ts os Q) : awl P f94b7 Q ts os = awl P (.seq (.region f94r6) f94b5) Q ts os := id rfl
def f94b8 : AQ := (.seq f94b7 f94b2)
theorem uf94b8 (P ts os Q) : awl P f94b8 Q ts os = awl P (.seq f94b7 f94b2) Q ts os := id rfl
def f94r9 : List AI := [⟨none, (.alloc 2 53 [(.bool false), (.int .i64 0)])⟩]
theorem uf94r9 : type_of% @f94r9.eq_1 := id @f94r9.eq_1
def f94b10 : AQ := (.seq (.region f94r9) f94b8)
theorem uf94b10 (P ts os Q) : awl P f94b10 Q ts os = awl P (.seq (.region f94r9) f94b8) Q ts os := id rfl
def f94 : AQ := f94b10
theorem uf94 (P ts os Q) : awl P f94 Q ts os = awl P f94b10 Q ts os := id rfl
theorem hf94 : cFunc Try.prog 94 = some ⟨6, f94.erase, [(RX.cell 2 2 true)]⟩ := by kernel_rfl
theorem okf94 : f94.ok = true := by kernel_rfl
def f95r1 : List AI := [⟨none, (.mov 30 (.t 1))⟩, ⟨none, (.mov 31 (.t 2))⟩, ⟨none, (.minmax 32 true (.t 30) [(.t 31)])⟩, ⟨none, (.mov 6 (.t 32))⟩]
theorem uf95r1 : type_of% @f95r1.eq_1 := id @f95r1.eq_1
def f95b2 : AQ := (.seq (.region f95r1) .ret)
theorem uf95b2 (P ts os Q) : awl P f95b2 Q ts os = awl P (.seq (.region f95r1) .ret) Q ts os := id rfl
def f95r3 : List AI := [⟨none, (.mov 10 (.t 1))⟩, ⟨none, (.mov 11 (.t 2))⟩, ⟨none, (.bin 12 .add (.t 10) (.t 11))⟩, ⟨none, (.call (some 13) 93 [(.t 12)])⟩, ⟨none, (.mov 6 (.t 13))⟩]
theorem uf95r3 : type_of% @f95r3.eq_1 := id @f95r3.eq_1
def f95b4 : AQ := (.seq (.region f95r3) .ret)
theorem uf95b4 (P ts os Q) : awl P f95b4 Q ts os = awl P (.seq (.region f95r3) .ret) Q ts os := id rfl
def f95r5 : List AI := [⟨none, (.mov 16 (.t 1))⟩, ⟨none, (.mov 17 (.t 2))⟩, ⟨none, (.bin 18 .sub (.t 16) (.t 17))⟩, ⟨none, (.call (some 19) 93 [(.t 18)])⟩, ⟨none, (.mov 6 (.t 19))⟩]
theorem uf95r5 : type_of% @f95r5.eq_1 := id @f95r5.eq_1
def f95b6 : AQ := (.seq (.region f95r5) .ret)
theorem uf95b6 (P ts os Q) : awl P f95b6 Q ts os = awl P (.seq (.region f95r5) .ret) Q ts os := id rfl
def f95r7 : List AI := [⟨none, (.mov 22 (.t 1))⟩, ⟨none, (.mov 23 (.t 2))⟩, ⟨none, (.call (some 24) 106 [(.t 22), (.t 23)])⟩, ⟨none, (.mov 6 (.t 24))⟩]
theorem uf95r7 : type_of% @f95r7.eq_1 := id @f95r7.eq_1
def f95b8 : AQ := (.seq (.region f95r7) .ret)
theorem uf95b8 (P ts os Q) : awl P f95b8 Q ts os = awl P (.seq (.region f95r7) .ret) Q ts os := id rfl
def f95r9 : List AI := [⟨none, (.mov 27 (.t 1))⟩, ⟨none, (.mov 28 (.t 2))⟩, ⟨none, (.minmax 29 false (.t 27) [(.t 28)])⟩, ⟨none, (.mov 6 (.t 29))⟩]
theorem uf95r9 : type_of% @f95r9.eq_1 := id @f95r9.eq_1
def f95b10 : AQ := (.seq (.region f95r9) .ret)
theorem uf95b10 (P ts os Q) : awl P f95b10 Q ts os = awl P (.seq (.region f95r9) .ret) Q ts os := id rfl
def f95b11 : AQ := (.cond (.t 25) f95b10 .skip)
theorem uf95b11 (P ts os Q) : awl P f95b11 Q ts os = awl P (.cond (.t 25) f95b10 .skip) Q ts os := id rfl
def f95r12 : List AI := [⟨none, (.bin 26 .eql (.t 7) (.v (.k (.c (.int .i64 12)))))⟩, ⟨none, (.mov 25 (.t 26))⟩]
theorem uf95r12 : type_of% @f95r12.eq_1 := id @f95r12.eq_1
def f95b13 : AQ := (.seq (.region f95r12) f95b11)
theorem uf95b13 (P ts os Q) : awl P f95b13 Q ts os = awl P (.seq (.region f95r12) f95b11) Q ts os := id rfl
def f95b14 : AQ := (.cond (.t 20) f95b8 f95b13)
theorem uf95b14 (P ts os Q) : awl P f95b14 Q ts os = awl P (.cond (.t 20) f95b8 f95b13) Q ts os := id rfl
def f95r15 : List AI := [⟨none, (.bin 21 .eql (.t 7) (.v (.k (.c (.int .i64 11)))))⟩, ⟨none, (.mov 20 (.t 21))⟩]
theorem uf95r15 : type_of% @f95r15.eq_1 := id @f95r15.eq_1
def f95b16 : AQ := (.seq (.region f95r15) f95b14)
theorem uf95b16 (P ts os Q) : awl P f95b16 Q ts os = awl P (.seq (.region f95r15) f95b14) Q ts os := id rfl
def f95b17 : AQ := (.cond (.t 14) f95b6 f95b16)
theorem uf95b17 (P ts os Q) : awl P f95b17 Q ts os = awl P (.cond (.t 14) f95b6 f95b16) Q ts os := id rfl
def f95r18 : List AI := [⟨none, (.bin 15 .eql (.t 7) (.v (.k (.c (.int .i64 10)))))⟩, ⟨none, (.mov 14 (.t 15))⟩]
theorem uf95r18 : type_of% @f95r18.eq_1 := id @f95r18.eq_1
def f95b19 : AQ := (.seq (.region f95r18) f95b17)
theorem uf95b19 (P ts os Q) : awl P f95b19 Q ts os = awl P (.seq (.region f95r18) f95b17) Q ts os := id rfl
def f95b20 : AQ := (.cond (.t 8) f95b4 f95b19)
theorem uf95b20 (P ts os Q) : awl P f95b20 Q ts os = awl P (.cond (.t 8) f95b4 f95b19) Q ts os := id rfl
def f95r21 : List AI := [⟨none, (.bin 9 .eql (.t 7) (.v (.k (.c (.int .i64 9)))))⟩, ⟨none, (.mov 8 (.t 9))⟩]
theorem uf95r21 : type_of% @f95r21.eq_1 := id @f95r21.eq_1
def f95b22 : AQ := (.seq (.region f95r21) f95b20)
theorem uf95b22 (P ts os Q) : awl P f95b22 Q ts os = awl P (.seq (.region f95r21) f95b20) Q ts os := id rfl
def f95b23 : AQ := (.block 0 f95b22)
theorem uf95b23 (P ts os Q) : awl P f95b23 Q ts os = awl P (.block 0 f95b22) Q ts os := id rfl
def f95r24 : List AI := [⟨none, (.mov 7 (.t 0))⟩]
theorem uf95r24 : type_of% @f95r24.eq_1 := id @f95r24.eq_1
def f95b25 : AQ := (.seq (.region f95r24) f95b23)
theorem uf95b25 (P ts os Q) : awl P f95b25 Q ts os = awl P (.seq (.region f95r24) f95b23) Q ts os := id rfl
def f95b26 : AQ := (.seq f95b25 f95b2)
theorem uf95b26 (P ts os Q) : awl P f95b26 Q ts os = awl P (.seq f95b25 f95b2) Q ts os := id rfl
def f95r27 : List AI := [⟨none, (.mov 6 (.v (.k (.c (.int .i64 0)))))⟩]
theorem uf95r27 : type_of% @f95r27.eq_1 := id @f95r27.eq_1
def f95b28 : AQ := (.seq (.region f95r27) f95b26)
theorem uf95b28 (P ts os Q) : awl P f95b28 Q ts os = awl P (.seq (.region f95r27) f95b26) Q ts os := id rfl
def f95 : AQ := f95b28
theorem uf95 (P ts os Q) : awl P f95 Q ts os = awl P f95b28 Q ts os := id rfl
theorem hf95 : cFunc Try.prog 95 = some ⟨33, f95.erase, [(RX.t 6)]⟩ := by kernel_rfl
theorem okf95 : f95.ok = true := by kernel_rfl
def f106r1 : List AI := [⟨none, (.mov 37 (.t 7))⟩, ⟨none, (.mov 4 (.t 37))⟩]
theorem uf106r1 : type_of% @f106r1.eq_1 := id @f106r1.eq_1
def f106b2 : AQ := (.seq (.region f106r1) .ret)
theorem uf106b2 (P ts os Q) : awl P f106b2 Q ts os = awl P (.seq (.region f106r1) .ret) Q ts os := id rfl
def f106r3 : List AI := [⟨none, (.mov 35 (.t 7))⟩, ⟨none, (.un 36 .neg (.t 35))⟩, ⟨none, (.mov 4 (.t 36))⟩]
theorem uf106r3 : type_of% @f106r3.eq_1 := id @f106r3.eq_1
def f106b4 : AQ := (.seq (.region f106r3) .ret)
theorem uf106b4 (P ts os Q) : awl P f106b4 Q ts os = awl P (.seq (.region f106r3) .ret) Q ts os := id rfl
def f106b5 : AQ := (.cond (.t 34) f106b4 .skip)
theorem uf106b5 (P ts os Q) : awl P f106b5 Q ts os = awl P (.cond (.t 34) f106b4 .skip) Q ts os := id rfl
def f106r6 : List AI := [⟨none, (.mov 30 (.t 0))⟩, ⟨none, (.bin 31 .lss (.t 30) (.v (.k (.c (.int .i64 0)))))⟩, ⟨none, (.mov 32 (.t 1))⟩, ⟨none, (.bin 33 .lss (.t 32) (.v (.k (.c (.int .i64 0)))))⟩, ⟨none, (.binB 34 true (.t 31) (.t 33))⟩]
theorem uf106r6 : type_of% @f106r6.eq_1 := id @f106r6.eq_1
def f106b7 : AQ := (.seq (.region f106r6) f106b5)
theorem uf106b7 (P ts os Q) : awl P f106b7 Q ts os = awl P (.seq (.region f106r6) f106b5) Q ts os := id rfl
def f106b8 : AQ := (.seq f106b7 f106b2)
theorem uf106b8 (P ts os Q) : awl P f106b8 Q ts os = awl P (.seq f106b7 f106b2) Q ts os := id rfl
def f106r9 : List AI := [⟨none, (.mov 28 (.t 6))⟩, ⟨none, (.conv 29 .i64 (.t 28))⟩, ⟨none, (.mov 7 (.t 29))⟩]
theorem uf106r9 : type_of% @f106r9.eq_1 := id @f106r9.eq_1
def f106b10 : AQ := (.cond (.t 27) (.region f106r9) .skip)
theorem uf106b10 (P ts os Q) : awl P f106b10 Q ts os = awl P (.cond (.t 27) (.region f106r9) .skip) Q ts os := id rfl
def f106r11 : List AI := [⟨none, (.mov 22 (.t 5))⟩, ⟨none, (.bin 23 .eql (.t 22) (.v (.k (.c (.int .u64 0)))))⟩, ⟨none, (.mov 24 (.t 23))⟩, ⟨(some (24, true)), (.mov 25 (.t 6))⟩, ⟨(some (24, true)), (.bin 26 .lss (.t 25) (.v (.k (.c (.int .u64 1099511627776)))))⟩, ⟨none, (.pick 27 (.t 24) (.t 26) (.v (.k (.c (.bool false)))))⟩]
theorem uf106r11 : type_of% @f106r11.eq_1 := id @f106r11.eq_1
def f106b12 : AQ := (.seq (.region f106r11) f106b10)
theorem uf106b12 (P ts os Q) : awl P f106b12 Q ts os = awl P (.seq (.region f106r11) f106b10) Q ts os := id rfl
def f106b13 : AQ := (.seq f106b12 f106b8)
theorem uf106b13 (P ts os Q) : awl P f106b13 Q ts os = awl P (.seq f106b12 f106b8) Q ts os := id rfl
def f106r14 : List AI := [⟨none, (.mov 7 (.v (.k (.c (.int .i64 1099511627776)))))⟩]
theorem uf106r14 : type_of% @f106r14.eq_1 := id @f106r14.eq_1
def f106b15 : AQ := (.seq (.region f106r14) f106b13)
theorem uf106b15 (P ts os Q) : awl P f106b15 Q ts os = awl P (.seq (.region f106r14) f106b13) Q ts os := id rfl
def f106r16 : List AI := [⟨none, (.mov 9 (.t 0))⟩, ⟨none, (.mov 10 (.t 0))⟩, ⟨none, (.un 11 .neg (.t 10))⟩, ⟨none, (.minmax 12 true (.t 9) [(.t 11)])⟩, ⟨none, (.conv 13 .u64 (.t 12))⟩, ⟨none, (.mov 14 (.t 1))⟩, ⟨none, (.mov 15 (.t 1))⟩, ⟨none, (.un 16 .neg (.t 15))⟩, ⟨none, (.minmax 17 true (.t 14) [(.t 16)])⟩, ⟨none, (.conv 18 .u64 (.t 17))⟩, ⟨none, (.call (some 19) 108 [(.t 13), (.t 18)])⟩, ⟨none, (.mov 8 (.t 19))⟩, ⟨none, (.extr 20 (.t 8) 0)⟩, ⟨none, (.extr 21 (.t 8) 1)⟩, ⟨none, (.mov 5 (.t 20))⟩, ⟨none, (.mov 6 (.t 21))⟩]
theorem uf106r16 : type_of% @f106r16.eq_1 := id @f106r16.eq_1
def f106b17 : AQ := (.seq (.region f106r16) f106b15)
theorem uf106b17 (P ts os Q) : awl P f106b17 Q ts os = awl P (.seq (.region f106r16) f106b15) Q ts os := id rfl
def f106r18 : List AI := [⟨none, (.mov 4 (.v (.k (.c (.int .i64 0)))))⟩]
theorem uf106r18 : type_of% @f106r18.eq_1 := id @f106r18.eq_1
def f106b19 : AQ := (.seq (.region f106r18) f106b17)
theorem uf106b19 (P ts os Q) : awl P f106b19 Q ts os = awl P (.seq (.region f106r18) f106b17) Q ts os := id rfl
def f106 : AQ := f106b19
theorem uf106 (P ts os Q) : awl P f106 Q ts os = awl P f106b19 Q ts os := id rfl
theorem hf106 : cFunc Try.prog 106 = some ⟨38, f106.erase, [(RX.t 4)]⟩ := by kernel_rfl
theorem okf106 : f106.ok = true := by kernel_rfl
def f108r1 : List AI := [⟨none, (.mov 48 (.t 0))⟩, ⟨none, (.mov 49 (.t 1))⟩, ⟨none, (.bin 50 .mul (.t 48) (.t 49))⟩, ⟨none, (.mov 5 (.t 50))⟩]
theorem uf108r1 : type_of% @f108r1.eq_1 := id @f108r1.eq_1
def f108b2 : AQ := (.seq (.region f108r1) .ret)
theorem uf108b2 (P ts os Q) : awl P f108b2 Q ts os = awl P (.seq (.region f108r1) .ret) Q ts os := id rfl
def f108r3 : List AI := [⟨none, (.mov 40 (.t 7))⟩, ⟨none, (.mov 41 (.t 9))⟩, ⟨none, (.bin 42 .mul (.t 40) (.t 41))⟩, ⟨none, (.mov 43 (.t 13))⟩, ⟨none, (.bin 44 .add (.t 42) (.t 43))⟩, ⟨none, (.mov 45 (.t 12))⟩, ⟨none, (.bin 46 .shr (.t 45) (.v (.k (.c (.int .u64 32)))))⟩, ⟨none, (.bin 47 .add (.t 44) (.t 46))⟩, ⟨none, (.mov 4 (.t 47))⟩]
theorem uf108r3 : type_of% @f108r3.eq_1 := id @f108r3.eq_1
def f108b4 : AQ := (.seq (.region f108r3) f108b2)
theorem uf108b4 (P ts os Q) : awl P f108b4 Q ts os = awl P (.seq (.region f108r3) f108b2) Q ts os := id rfl
def f108r5 : List AI := [⟨none, (.mov 35 (.t 12))⟩, ⟨none, (.mov 36 (.t 6))⟩, ⟨none, (.mov 37 (.t 9))⟩, ⟨none, (.bin 38 .mul (.t 36) (.t 37))⟩, ⟨none, (.bin 39 .add (.t 35) (.t 38))⟩, ⟨none, (.mov 12 (.t 39))⟩]
theorem uf108r5 : type_of% @f108r5.eq_1 := id @f108r5.eq_1
def f108b6 : AQ := (.seq (.region f108r5) f108b4)
theorem uf108b6 (P ts os Q) : awl P f108b6 Q ts os = awl P (.seq (.region f108r5) f108b4) Q ts os := id rfl
def f108r7 : List AI := [⟨none, (.mov 33 (.t 11))⟩, ⟨none, (.bin 34 .shr (.t 33) (.v (.k (.c (.int .u64 32)))))⟩, ⟨none, (.mov 13 (.t 34))⟩]
theorem uf108r7 : type_of% @f108r7.eq_1 := id @f108r7.eq_1
def f108b8 : AQ := (.seq (.region f108r7) f108b6)
theorem uf108b8 (P ts os Q) : awl P f108b8 Q ts os = awl P (.seq (.region f108r7) f108b6) Q ts os := id rfl
def f108r9 : List AI := [⟨none, (.mov 31 (.t 11))⟩, ⟨none, (.bin 32 .and (.t 31) (.v (.k (.c (.int .u64 4294967295)))))⟩, ⟨none, (.mov 12 (.t 32))⟩]
theorem uf108r9 : type_of% @f108r9.eq_1 := id @f108r9.eq_1
def f108b10 : AQ := (.seq (.region f108r9) f108b8)
theorem uf108b10 (P ts os Q) : awl P f108b10 Q ts os = awl P (.seq (.region f108r9) f108b8) Q ts os := id rfl
def f108r11 : List AI := [⟨none, (.mov 25 (.t 7))⟩, ⟨none, (.mov 26 (.t 8))⟩, ⟨none, (.bin 27 .mul (.t 25) (.t 26))⟩, ⟨none, (.mov 28 (.t 10))⟩, ⟨none, (.bin 29 .shr (.t 28) (.v (.k (.c (.int .u64 32)))))⟩, ⟨none, (.bin 30 .add (.t 27) (.t 29))⟩, ⟨none, (.mov 11 (.t 30))⟩]
theorem uf108r11 : type_of% @f108r11.eq_1 := id @f108r11.eq_1
def f108b12 : AQ := (.seq (.region f108r11) f108b10)
theorem uf108b12 (P ts os Q) : awl P f108b12 Q ts os = awl P (.seq (.region f108r11) f108b10) Q ts os := id rfl
def f108r13 : List AI := [⟨none, (.mov 22 (.t 6))⟩, ⟨none, (.mov 23 (.t 8))⟩, ⟨none, (.bin 24 .mul (.t 22) (.t 23))⟩, ⟨none, (.mov 10 (.t 24))⟩]
theorem uf108r13 : type_of% @f108r13.eq_1 := id @f108r13.eq_1
def f108b14 : AQ := (.seq (.region f108r13) f108b12)
theorem uf108b14 (P ts os Q) : awl P f108b14 Q ts os = awl P (.seq (.region f108r13) f108b12) Q ts os := id rfl
def f108r15 : List AI := [⟨none, (.mov 20 (.t 1))⟩, ⟨none, (.bin 21 .shr (.t 20) (.v (.k (.c (.int .u64 32)))))⟩, ⟨none, (.mov 9 (.t 21))⟩]
theorem uf108r15 : type_of% @f108r15.eq_1 := id @f108r15.eq_1
def f108b16 : AQ := (.seq (.region f108r15) f108b14)
theorem uf108b16 (P ts os Q) : awl P f108b16 Q ts os = awl P (.seq (.region f108r15) f108b14) Q ts os := id rfl
def f108r17 : List AI := [⟨none, (.mov 18 (.t 1))⟩, ⟨none, (.bin 19 .and (.t 18) (.v (.k (.c (.int .u64 4294967295)))))⟩, ⟨none, (.mov 8 (.t 19))⟩]
theorem uf108r17 : type_of% @f108r17.eq_1 := id @f108r17.eq_1
def f108b18 : AQ := (.seq (.region f108r17) f108b16)
theorem uf108b18 (P ts os Q) : awl P f108b18 Q ts os = awl P (.seq (.region f108r17) f108b16) Q ts os := id rfl
def f108r19 : List AI := [⟨none, (.mov 16 (.t 0))⟩, ⟨none, (.bin 17 .shr (.t 16) (.v (.k (.c (.int .u64 32)))))⟩, ⟨none, (.mov 7 (.t 17))⟩]
theorem uf108r19 : type_of% @f108r19.eq_1 := id @f108r19.eq_1
def f108b20 : AQ := (.seq (.region f108r19) f108b18)
theorem uf108b20 (P ts os Q) : awl P f108b20 Q ts os = awl P (.seq (.region f108r19) f108b18) Q ts os := id rfl
def f108r21 : List AI := [⟨none, (.mov 14 (.t 0))⟩, ⟨none, (.bin 15 .and (.t 14) (.v (.k (.c (.int .u64 4294967295)))))⟩, ⟨none, (.mov 6 (.t 15))⟩]
theorem uf108r21 : type_of% @f108r21.eq_1 := id @f108r21.eq_1
def f108b22 : AQ := (.seq (.region f108r21) f108b20)
theorem uf108b22 (P ts os Q) : awl P f108b22 Q ts os = awl P (.seq (.region f108r21) f108b20) Q ts os := id rfl
def f108r23 : List AI := [⟨none, (.mov 4 (.v (.k (.c (.int .u64 0)))))⟩, ⟨none, (.mov 5 (.v (.k (.c (.int .u64 0)))))⟩]
theorem uf108r23 : type_of% @f108r23.eq_1 := id @f108r23.eq_1
def f108b24 : AQ := (.seq (.region f108r23) f108b22)
theorem uf108b24 (P ts os Q) : awl P f108b24 Q ts os = awl P (.seq (.region f108r23) f108b22) Q ts os := id rfl
def f108 : AQ := f108b24
theorem uf108 (P ts os Q) : awl P f108 Q ts os = awl P f108b24 Q ts os := id rfl
theorem hf108 : cFunc Try.prog 108 = some ⟨51, f108.erase, [(RX.t 4), (RX.t 5)]⟩ := by kernel_rfl
theorem okf108 : f108.ok = true := by kernel_rfl
def f13r1 : List AI := [⟨none, (.mov 94 (.t 5))⟩, ⟨none, (.mov 95 (.t 94))⟩, ⟨(some (95, true)), (.mov 96 (.t 8))⟩, ⟨(some (95, true)), (.mov 97 (.t 7))⟩, ⟨(some (95, true)), (.len 98 (.t 97))⟩, ⟨(some (95, true)), (.bin 99 .eql (.t 96) (.t 98))⟩, ⟨none, (.pick 100 (.t 95) (.t 99) (.v (.k (.c (.bool false)))))⟩, ⟨none, (.mov 4 (.t 100))⟩]
theorem uf13r1 : type_of% @f13r1.eq_1 := id @f13r1.eq_1
def f13b2 : AQ := (.seq (.region f13r1) .ret)
theorem uf13b2 (P ts os Q) : awl P f13b2 Q ts os = awl P (.seq (.region f13r1) .ret) Q ts os := id rfl
def f13r3 : List AI := [⟨none, (.mov 33 (.t 9))⟩, ⟨none, (.bin 34 .add (.t 33) (.v (.k (.c (.int .i64 1)))))⟩, ⟨none, (.mov 9 (.t 34))⟩]
theorem uf13r3 : type_of% @f13r3.eq_1 := id @f13r3.eq_1
def f13r4 : List AI := [⟨none, (.mov 4 (.v (.k (.c (.bool false)))))⟩]
def f13b5 : AQ := (.seq (.region f13r4) .ret)
def f13b6 : AQ := (.cond (.t 93) f13b5 .skip)
theorem uf13b6 (P ts os Q) : awl P f13b6 Q ts os = awl P (.cond (.t 93) f13b5 .skip) Q ts os := id rfl
def f13r7 : List AI := [⟨none, (.mov 69 (.t 11))⟩, ⟨none, (.mov 70 (.t 69))⟩, ⟨(some (70, true)), (.mov 71 (.t 13))⟩, ⟨(some (70, true)), (.un 72 .not (.t 71))⟩, ⟨none, (.pick 73 (.t 70) (.t 72) (.v (.k (.c (.bool false)))))⟩, ⟨none, (.mov 74 (.t 73))⟩, ⟨(some (74, false)), (.mov 75 (.t 13))⟩, ⟨(some (74, false)), (.mov 76 (.t 75))⟩, ⟨(some (76, true)), (.mov 77 (.t 11))⟩, ⟨(some (76, true)), (.un 78 .not (.t 77))⟩, ⟨(some (74, false)), (.pick 79 (.t 76) (.t 78) (.v (.k (.c (.bool false)))))⟩, ⟨(some (74, false)), (.mov 80 (.t 79))⟩, ⟨(some (80, true)), (.faddr 81 3 (.t 2))⟩, ⟨(some (80, true)), (.load 82 1 false (.t 81))⟩, ⟨(some (80, true)), (.mov 83 (.t 9))⟩, ⟨(some (80, true)), (.iaddr 84 4 (.t 82) (.t 83))⟩, ⟨(some (80, true)), (.faddr 85 1 (.t 84))⟩, ⟨(some (80, true)), (.load 86 3 true (.t 85))⟩, ⟨(some (80, true)), (.mov 87 (.t 6))⟩, ⟨(some (80, true)), (.slice 88 2 (.t 87) none (some (.v (.k (.c (.int .i64 15))))))⟩, ⟨(some (80, true)), (.call (some 89) 37 [(.t 86), (.t 88)])⟩, ⟨(some (80, true)), (.field 90 0 1 false (.t 89))⟩, ⟨(some (80, true)), (.un 91 .not (.t 90))⟩, ⟨(some (74, false)), (.pick 92 (.t 80) (.t 91) (.v (.k (.c (.bool false)))))⟩, ⟨none, (.pick 93 (.t 74) (.v (.k (.c (.bool true)))) (.t 92))⟩]
theorem uf13r7 : type_of% @f13r7.eq_1 := id @f13r7.eq_1
def f13b8 : AQ := (.seq (.draw f13r7 [[], [0], [1], [2, 1], [1, 3], [4, 1], [5], [6, 5, 5], [7], [8, 7], [7, 9, 5], [10, 7, 5], [11], [12, 11], [11], [13, 14, 11], [15, 11], [16, 11], [11], [18, 11], [17, 19, 11, 11], [20, 11], [21, 11], [11, 22, 5], [5, 23]]) f13b6)
theorem uf13b8 (P ts os Q) : awl P f13b8 Q ts os = awl P (.seq (.draw f13r7 [[], [0], [1], [2, 1], [1, 3], [4, 1], [5], [6, 5, 5], [7], [8, 7], [7, 9, 5], [10, 7, 5], [11], [12, 11], [11], [13, 14, 11], [15, 11], [16, 11], [11], [18, 11], [17, 19, 11, 11], [20, 11], [21, 11], [11, 22, 5], [5, 23]]) f13b6) Q ts os := id rfl
def f13r9 : List AI := [⟨none, (.mov 59 (.t 10))⟩, ⟨none, (.bin 60 .eql (.t 59) (.v (.k (.c (.int .i64 0)))))⟩, ⟨none, (.mov 61 (.t 60))⟩, ⟨(some (61, false)), (.mov 62 (.t 10))⟩, ⟨(some (61, false)), (.bin 63 .eql (.t 62) (.v (.k (.c (.int .i64 6)))))⟩, ⟨none, (.pick 64 (.t 61) (.v (.k (.c (.bool true)))) (.t 63))⟩, ⟨none, (.mov 65 (.t 64))⟩, ⟨(some (65, false)), (.mov 66 (.t 10))⟩, ⟨(some (65, false)), (.bin 67 .eql (.t 66) (.v (.k (.c (.int .i64 7)))))⟩, ⟨none, (.pick 68 (.t 65) (.v (.k (.c (.bool true)))) (.t 67))⟩, ⟨none, (.mov 13 (.t 68))⟩]
theorem uf13r9 : type_of% @f13r9.eq_1 := id @f13r9.eq_1
def f13b10 : AQ := (.seq (.region f13r9) f13b8)
theorem uf13b10 (P ts os Q) : awl P f13b10 Q ts os = awl P (.seq (.region f13r9) f13b8) Q ts os := id rfl
def f13r11 : List AI := [⟨none, (.mov 57 (.t 8))⟩, ⟨none, (.bin 58 .add (.t 57) (.v (.k (.c (.int .i64 1)))))⟩, ⟨none, (.mov 8 (.t 58))⟩]
theorem uf13r11 : type_of% @f13r11.eq_1 := id @f13r11.eq_1
def f13b12 : AQ := (.cond (.t 56) (.region f13r11) .skip)
theorem uf13b12 (P ts os Q) : awl P f13b12 Q ts os = awl P (.cond (.t 56) (.region f13r11) .skip) Q ts os := id rfl
def f13r13 : List AI := [⟨none, (.mov 56 (.t 11))⟩]
theorem uf13r13 : type_of% @f13r13.eq_1 := id @f13r13.eq_1
def f13b14 : AQ := (.seq (.region f13r13) f13b12)
theorem uf13b14 (P ts os Q) : awl P f13b14 Q ts os = awl P (.seq (.region f13r13) f13b12) Q ts os := id rfl
def f13b15 : AQ := (.seq f13b14 f13b10)
theorem uf13b15 (P ts os Q) : awl P f13b15 Q ts os = awl P (.seq f13b14 f13b10) Q ts os := id rfl
def f13r16 : List AI := [⟨none, (.mov 45 (.t 12))⟩, ⟨none, (.bin 46 .add (.t 45) (.v (.k (.c (.int .i64 1)))))⟩, ⟨none, (.mov 12 (.t 46))⟩]
theorem uf13r16 : type_of% @f13r16.eq_1 := id @f13r16.eq_1
def f13r17 : List AI := [⟨none, (.mov 47 (.t 11))⟩, ⟨none, (.mov 48 (.t 47))⟩, ⟨(some (48, false)), (.mov 49 (.t 7))⟩, ⟨(some (48, false)), (.mov 50 (.t 12))⟩, ⟨(some (48, false)), (.iaddr 51 1 (.t 49) (.t 50))⟩, ⟨(some (48, false)), (.load 52 1 false (.t 51))⟩, ⟨(some (48, false)), (.mov 53 (.t 10))⟩, ⟨(some (48, false)), (.bin 54 .eql (.t 52) (.t 53))⟩, ⟨none, (.pick 55 (.t 48) (.v (.k (.c (.bool true)))) (.t 54))⟩, ⟨none, (.mov 11 (.t 55))⟩]
theorem uf13r17 : type_of% @f13r17.eq_1 := id @f13r17.eq_1
def f13b18 : AQ := (.block 3 (.region f13r17))
theorem uf13b18 (P ts os Q) : awl P f13b18 Q ts os = awl P (.block 3 (.region f13r17)) Q ts os := id rfl
def f13b19 : AQ := (.seq f13b18 (.region f13r16))
theorem uf13b19 (P ts os Q) : awl P f13b19 Q ts os = awl P (.seq f13b18 (.region f13r16)) Q ts os := id rfl
def f13b20 : AQ := (.cond (.t 44) .skip (.exit 2))
theorem uf13b20 (P ts os Q) : awl P f13b20 Q ts os = awl P (.cond (.t 44) .skip (.exit 2)) Q ts os := id rfl
def f13r21 : List AI := [⟨none, (.mov 41 (.t 12))⟩, ⟨none, (.mov 42 (.t 7))⟩, ⟨none, (.len 43 (.t 42))⟩, ⟨none, (.bin 44 .lss (.t 41) (.t 43))⟩]
theorem uf13r21 : type_of% @f13r21.eq_1 := id @f13r21.eq_1
def f13b22 : AQ := (.seq (.region f13r21) f13b20)
theorem uf13b22 (P ts os Q) : awl P f13b22 Q ts os = awl P (.seq (.region f13r21) f13b20) Q ts os := id rfl
def f13b23 : AQ := (.seq f13b22 f13b19)
theorem uf13b23 (P ts os Q) : awl P f13b23 Q ts os = awl P (.seq f13b22 f13b19) Q ts os := id rfl
def f13l24 : AQ := .loop [2, 5, 6, 7, 8, 9, 10, 11, 12] [2, 25, 27, 26000, 26001, 26002, 28000, 28001, 28002] f13b23
theorem uf13l24 (P ts os Q) : awl P f13l24 Q ts os = awl P (.loop [2, 5, 6, 7, 8, 9, 10, 11, 12] [2, 25, 27, 26000, 26001, 26002, 28000, 28001, 28002] f13b23) Q ts os := id rfl
def f13b25 : AQ := (.block 2 f13l24)
theorem uf13b25 (P ts os Q) : awl P f13b25 Q ts os = awl P (.block 2 f13l24) Q ts os := id rfl
def f13r26 : List AI := [⟨none, (.mov 12 (.v (.k (.c (.int .i64 0)))))⟩]
theorem uf13r26 : type_of% @f13r26.eq_1 := id @f13r26.eq_1
def f13b27 : AQ := (.seq (.region f13r26) f13b25)
theorem uf13b27 (P ts os Q) : awl P f13b27 Q ts os = awl P (.seq (.region f13r26) f13b25) Q ts os := id rfl
def f13b28 : AQ := (.seq f13b27 f13b15)
theorem uf13b28 (P ts os Q) : awl P f13b28 Q ts os = awl P (.seq f13b27 f13b15) Q ts os := id rfl
def f13r29 : List AI := [⟨none, (.mov 11 (.v (.k (.c (.bool false)))))⟩]
theorem uf13r29 : type_of% @f13r29.eq_1 := id @f13r29.eq_1
def f13b30 : AQ := (.seq (.region f13r29) f13b28)
theorem uf13b30 (P ts os Q) : awl P f13b30 Q ts os = awl P (.seq (.region f13r29) f13b28) Q ts os := id rfl
def f13r31 : List AI := [⟨none, (.faddr 35 3 (.t 2))⟩, ⟨none, (.load 36 1 false (.t 35))⟩, ⟨none, (.mov 37 (.t 9))⟩, ⟨none, (.iaddr 38 4 (.t 36) (.t 37))⟩, ⟨none, (.faddr 39 0 (.t 38))⟩, ⟨none, (.load 40 1 false (.t 39))⟩, ⟨none, (.mov 10 (.t 40))⟩]
theorem uf13r31 : type_of% @f13r31.eq_1 := id @f13r31.eq_1
def f13b32 : AQ := (.seq (.region f13r31) f13b30)
theorem uf13b32 (P ts os Q) : awl P f13b32 Q ts os = awl P (.seq (.region f13r31) f13b30) Q ts os := id rfl
def f13b33 : AQ := (.block 1 f13b32)
theorem uf13b33 (P ts os Q) : awl P f13b33 Q ts os = awl P (.block 1 f13b32) Q ts os := id rfl
def f13b34 : AQ := (.seq f13b33 (.region f13r3))
theorem uf13b34 (P ts os Q) : awl P f13b34 Q ts os = awl P (.seq f13b33 (.region f13r3)) Q ts os := id rfl
def f13b35 : AQ := (.cond (.t 32) .skip (.exit 0))
theorem uf13b35 (P ts os Q) : awl P f13b35 Q ts os = awl P (.cond (.t 32) .skip (.exit 0)) Q ts os := id rfl
def f13r36 : List AI := [⟨none, (.mov 28 (.t 9))⟩, ⟨none, (.faddr 29 3 (.t 2))⟩, ⟨none, (.load 30 1 false (.t 29))⟩, ⟨none, (.len 31 (.t 30))⟩, ⟨none, (.bin 32 .lss (.t 28) (.t 31))⟩]
theorem uf13r36 : type_of% @f13r36.eq_1 := id @f13r36.eq_1
def f13b37 : AQ := (.seq (.region f13r36) f13b35)
theorem uf13b37 (P ts os Q) : awl P f13b37 Q ts os = awl P (.seq (.region f13r36) f13b35) Q ts os := id rfl
def f13b38 : AQ := (.seq f13b37 f13b34)
theorem uf13b38 (P ts os Q) : awl P f13b38 Q ts os = awl P (.seq f13b37 f13b34) Q ts os := id rfl
def f13l39 : AQ := .loop [2, 5, 6, 7, 8, 9] [2, 25, 27, 26000, 26001, 26002, 28000, 28001, 28002] f13b38
theorem uf13l39 (P ts os Q) : awl P f13l39 Q ts os = awl P (.loop [2, 5, 6, 7, 8, 9] [2, 25, 27, 26000, 26001, 26002, 28000, 28001, 28002] f13b38) Q ts os := id rfl
def f13b40 : AQ := (.block 0 f13l39)
theorem uf13b40 (P ts os Q) : awl P f13b40 Q ts os = awl P (.block 0 f13l39) Q ts os := id rfl
def f13r41 : List AI := [⟨none, (.mov 9 (.v (.k (.c (.int .i64 0)))))⟩]
theorem uf13r41 : type_of% @f13r41.eq_1 := id @f13r41.eq_1
def f13b42 : AQ := (.seq (.region f13r41) f13b40)
theorem uf13b42 (P ts os Q) : awl P f13b42 Q ts os = awl P (.seq (.region f13r41) f13b40) Q ts os := id rfl
def f13b43 : AQ := (.seq f13b42 f13b2)
theorem uf13b43 (P ts os Q) : awl P f13b43 Q ts os = awl P (.seq f13b42 f13b2) Q ts os := id rfl
def f13r44 : List AI := [⟨none, (.mov 8 (.v (.k (.c (.int .i64 0)))))⟩]
theorem uf13r44 : type_of% @f13r44.eq_1 := id @f13r44.eq_1
def f13b45 : AQ := (.seq (.region f13r44) f13b43)
theorem uf13b45 (P ts os Q) : awl P f13b45 Q ts os = awl P (.seq (.region f13r44) f13b43) Q ts os := id rfl
def f13r46 : List AI := [⟨none, (.load 26 4 true (.t 2))⟩, ⟨none, (.call (some 27) 27 [(.t 26)])⟩, ⟨none, (.mov 7 (.t 27))⟩]
theorem uf13r46 : type_of% @f13r46.eq_1 := id @f13r46.eq_1
def f13b47 : AQ := (.seq (.region f13r46) f13b45)
theorem uf13b47 (P ts os Q) : awl P f13b47 Q ts os = awl P (.seq (.region f13r46) f13b45) Q ts os := id rfl
def f13r48 : List AI := [⟨none, (.mov 24 (.t 1))⟩, ⟨none, (.call (some 25) 43 [(.t 24)])⟩, ⟨none, (.mov 6 (.t 25))⟩]
theorem uf13r48 : type_of% @f13r48.eq_1 := id @f13r48.eq_1
def f13b49 : AQ := (.seq (.region f13r48) (.frz 25 f13b47))
theorem uf13b49 (P ts os Q) : awl P f13b49 Q ts os = awl P (.seq (.region f13r48) (.frz 25 f13b47)) Q ts os := id rfl
def f13r50 : List AI := [⟨none, (.mov 23 (.t 5))⟩, ⟨none, (.mov 4 (.t 23))⟩]
theorem uf13r50 : type_of% @f13r50.eq_1 := id @f13r50.eq_1
def f13b51 : AQ := (.seq (.region f13r50) .ret)
theorem uf13b51 (P ts os Q) : awl P f13b51 Q ts os = awl P (.seq (.region f13r50) .ret) Q ts os := id rfl
def f13b52 : AQ := (.cond (.t 22) f13b51 .skip)
theorem uf13b52 (P ts os Q) : awl P f13b52 Q ts os = awl P (.cond (.t 22) f13b51 .skip) Q ts os := id rfl
def f13r53 : List AI := [⟨none, (.load 15 4 true (.t 2))⟩, ⟨none, (.call (some 16) 15 [(.t 15)])⟩, ⟨none, (.un 17 .not (.t 16))⟩, ⟨none, (.mov 18 (.t 17))⟩, ⟨(some (18, false)), (.load 19 4 true (.t 2))⟩, ⟨(some (18, false)), (.call (some 20) 20 [(.t 19)])⟩, ⟨(some (18, false)), (.bin 21 .neq (.t 20) (.v (.k (.c (.int .i64 0)))))⟩, ⟨none, (.pick 22 (.t 18) (.v (.k (.c (.bool true)))) (.t 21))⟩]
theorem uf13r53 : type_of% @f13r53.eq_1 := id @f13r53.eq_1
def f13b54 : AQ := (.seq (.region f13r53) f13b52)
theorem uf13b54 (P ts os Q) : awl P f13b54 Q ts os = awl P (.seq (.region f13r53) f13b52) Q ts os := id rfl
def f13b55 : AQ := (.seq f13b54 f13b49)
theorem uf13b55 (P ts os Q) : awl P f13b55 Q ts os = awl P (.seq f13b54 f13b49) Q ts os := id rfl
def f13r56 : List AI := [⟨none, (.call (some 14) 14 [])⟩, ⟨none, (.mov 5 (.t 14))⟩]
theorem uf13r56 : type_of% @f13r56.eq_1 := id @f13r56.eq_1
def f13b57 : AQ := (.seq (.region f13r56) f13b55)
theorem uf13b57 (P ts os Q) : awl P f13b57 Q ts os = awl P (.seq (.region f13r56) f13b55) Q ts os := id rfl
def f13r58 : List AI := [⟨none, (.box 2 25 (.t 0))⟩, ⟨none, (.mov 4 (.v (.k (.c (.bool false)))))⟩]
theorem uf13r58 : type_of% @f13r58.eq_1 := id @f13r58.eq_1
def f13b59 : AQ := (.seq (.region f13r58) f13b57)
theorem uf13b59 (P ts os Q) : awl P f13b59 Q ts os = awl P (.seq (.region f13r58) f13b57) Q ts os := id rfl
def f13 : AQ := f13b59
theorem uf13 (P ts os Q) : awl P f13 Q ts os = awl P f13b59 Q ts os := id rfl
theorem hf13 : cFunc Try.prog 13 = some ⟨101, f13.erase, [(RX.t 4)]⟩ := by kernel_rfl
theorem okf13 : f13.ok = true := by kernel_rfl
end Go.Abs


namespace Go.Abs
theorem wrap_in {n : Int} (h1 : -9223372036854775808 ≤ n) (h2 : n ≤ 9223372036854775807) : IntKind.i64.wrap n = n := IntWalk.i64_in n ⟨h1, h2⟩
def lstC (sz : Nat) (rows : List (List C)) : C := .list (if rows.isEmpty then 0 else sz) none rows
abbrev lst (sz : Nat) (rows : List (List C)) : V := .k (.c (lstC sz rows))
def ints (l : List Int) : List (List C) := l.map fun n => [.int .i64 n]
theorem map_isEmpty {α β : Type} (f : α → β) (l : List α) : (l.map f).isEmpty = l.isEmpty := by cases l <;> rfl
theorem sz_of {α : Type} {l : List α} {i sz : Nat} (h : i < l.length) : (if l.isEmpty = true then 0 else sz) = sz := by cases l <;> simp at h ⊢
theorem map_at {α : Type} {f : α → List C} {l : List α} {i : Nat} (h : i < l.length) : (l.map f).getD i [] = f l[i] := by simp [h]
theorem map_len {α : Type} (f : α → List C) (l : List α) : (l.map f).length = l.length := by simp
theorem normRows_eq {α : Type} {f : α → List C} (hf : ∀ x, C.normRow (f x) = f x) (l : List α) : C.normRows (l.map f) = l.map f := by
  induction l with
  | nil => rfl
  | cons a l ih => simp [C.normRows, hf, ih]
theorem lstC_norm {α : Type} {f : α → List C} (hf : ∀ x, C.normRow (f x) = f x) (sz : Nat) (l : List α) : (lstC sz (l.map f)).norm = lstC sz (l.map f) := by
  unfold lstC
  simp only [C.norm, normRows_eq hf]
  cases l <;> simp
inductive Term where
  | mk (op n : Int) (args : List Term)
  deriving Inhabited
def Term.op : Term → Int | .mk o _ _ => o
def Term.n : Term → Int | .mk _ n _ => n
def Term.args : Term → List Term | .mk _ _ a => a
mutual
def encT : Term → List C
  | .mk o n a => [.int .i64 o, .int .i64 n, lstC 3 (encTs a)]
def encTs : List Term → List (List C)
  | [] => []
  | t :: l => encT t :: encTs l
end
theorem encTs_map : ∀ (l : List Term), encTs l = l.map encT
  | [] => rfl
  | t :: l => by simp [encTs, encTs_map l]
theorem encT_eq (t : Term) : encT t = [.int .i64 t.op, .int .i64 t.n, lstC 3 (t.args.map encT)] := by
  cases t with
  | mk o n a => simp [encT, Term.op, Term.n, Term.args, encTs_map]
mutual
theorem encT_norm : ∀ (t : Term), C.normRow (encT t) = encT t
  | .mk o n a => by
    simp only [encT, C.normRow, C.norm, lstC, encTs_norm a]
    cases a <;> simp [encTs]
theorem encTs_norm : ∀ (l : List Term), C.normRows (encTs l) = encTs l
  | [] => rfl
  | t :: l => by simp only [encTs, C.normRows, encT_norm t, encTs_norm l]
end
theorem encT_len (t : Term) : (encT t).length = 3 := by rw [encT_eq]; rfl
structure Choice where
  ask : Int
  by_ : Int
  whole : Bool
  deriving Inhabited
structure Rule where
  ask : Int
  term : Term
  deriving Inhabited
structure Order where
  name : List UInt8
  accepts : Bool
  choices : List Choice
  rules : List Rule
  deriving Inhabited
def encChoice (c : Choice) : List C := [.int .i64 c.ask, .int .i64 c.by_, .bool c.whole]
def encRule (r : Rule) : List C := .int .i64 r.ask :: encT r.term
def encOrder (o : Order) : List C := [.str o.name, .bool o.accepts, lstC 3 (o.choices.map encChoice), lstC 4 (o.rules.map encRule)]
theorem encChoice_norm (c : Choice) : C.normRow (encChoice c) = encChoice c := rfl
theorem encRule_norm (r : Rule) : C.normRow (encRule r) = encRule r := by simp [encRule, C.normRow, C.norm, encT_norm]
theorem encOrder_norm (o : Order) : C.normRow (encOrder o) = encOrder o := by
  simp only [encOrder, C.normRow, C.norm, lstC_norm encChoice_norm, lstC_norm encRule_norm]
structure Cell where
  known : Bool
  n : Int
  deriving Inhabited
def encCell (c : Cell) : List C := [.bool c.known, .int .i64 c.n]
theorem encCell_norm (c : Cell) : C.normRow (encCell c) = encCell c := rfl
def encI (n : Int) : List C := [.int .i64 n]
@[simp] theorem normRow_int (k : IntKind) (n : Int) : C.normRow [.int k n] = [.int k n] := rfl
@[simp] theorem normRow_encI (n : Int) : C.normRow (encI n) = encI n := rfl
attribute [simp] encT_norm encChoice_norm encRule_norm encOrder_norm encCell_norm C.normRow
@[simp] theorem norm_int (k : IntKind) (n : Int) : (C.int k n).norm = .int k n := rfl
@[simp] theorem norm_bool (b : Bool) : (C.bool b).norm = .bool b := rfl
@[simp] theorem norm_str (s : List UInt8) : (C.str s).norm = .str s := rfl
@[simp] theorem norm_ro (row : List C) (off : Nat) : (C.ro row off).norm = .ro (C.normRow row) off := rfl
@[simp] theorem norm_fn (f : FuncId) (caps : List C) : (C.fn f caps).norm = .fn f (C.normRow caps) := rfl
@[simp] theorem normRows_T (l : List Term) : C.normRows (l.map encT) = l.map encT := normRows_eq encT_norm l
@[simp] theorem normRows_Ch (l : List Choice) : C.normRows (l.map encChoice) = l.map encChoice := normRows_eq encChoice_norm l
@[simp] theorem normRows_R (l : List Rule) : C.normRows (l.map encRule) = l.map encRule := normRows_eq encRule_norm l
@[simp] theorem normRows_O (l : List Order) : C.normRows (l.map encOrder) = l.map encOrder := normRows_eq encOrder_norm l
@[simp] theorem normRows_Ce (l : List Cell) : C.normRows (l.map encCell) = l.map encCell := normRows_eq encCell_norm l
@[simp] theorem normRows_ints (l : List Int) : C.normRows (ints l) = ints l := normRows_eq (fun _ => rfl) l
@[simp] theorem normRows_nil : C.normRows [] = [] := rfl
@[simp] theorem normRows_cons (r : List C) (l : List (List C)) : C.normRows (r :: l) = C.normRow r :: C.normRows l := rfl
@[simp] theorem ints_len (l : List Int) : (ints l).length = l.length := by simp [ints]
theorem ints_at {l : List Int} {i : Nat} (h : i < l.length) : (ints l).getD i [] = [.int .i64 l[i]] := by simp [ints, h]
@[simp] theorem ints_isEmpty (l : List Int) : (ints l).isEmpty = l.isEmpty := by cases l <;> rfl
theorem ints_snoc (l : List Int) (n : Int) : ints l ++ [[.int .i64 n]] = ints (l ++ [n]) := by simp [ints]
theorem ints_append (l m : List Int) : ints l ++ ints m = ints (l ++ m) := by simp [ints]
theorem r_vLen_lst (o : Nat → Option O) (sz : Nat) (rows : List (List C)) : vLen o (.k (.c (lstC sz rows))) = some (True, .int .i64 rows.length) := rfl
theorem r_vIaddr_lst (o : Nat → Option O) (sz : Nat) (rows : List (List C)) (k : IntKind) (n : Int) : vIaddr o sz (.k (.c (lstC sz rows))) (.k (.c (.int k n))) = some (0 ≤ n ∧ n < rows.length, .k (.pel sz rows n.toNat 0)) := by
  simp only [lstC, vIaddr, Option.some.injEq, Prod.mk.injEq]
  cases rows with
  | nil => simp; omega
  | cons a l =>
    refine ⟨?_, ?_⟩
    · simp
    · simp
theorem r_srcV_lst (os : OS) (sz : Nat) (rows : List (List C)) : srcV os sz (.k (.c (lstC sz rows))) = some (True, rows) := by
  simp only [lstC, srcV]
  cases rows <;> simp
@[simp] theorem norm_lst (sz : Nat) (rows : List (List C)) : (lstC sz rows).norm = lstC sz (C.normRows rows) := by
  unfold lstC
  simp only [C.norm]
  cases rows <;> simp [C.normRows]
@[simp] theorem norm_list (sz : Nat) (nl : Option Bool) (rows : List (List C)) : (C.list sz nl rows).norm = lstC sz (C.normRows rows) := by
  unfold lstC
  simp only [C.norm]
  cases rows <;> simp [C.normRows]
theorem r_ofRow_map (r : List C) : ofRow true (r.map Abs.K.c) = .agg r := by
  simp only [ofRow, pureRow_map, if_true]
theorem r_ofRow_take {r : List C} {n : Nat} (h : r.length = n) : ofRow true (List.take n (r.map Abs.K.c)) = .agg r := by
  rw [List.take_of_length_le (by simp; omega)]; exact r_ofRow_map r
theorem r_all_noRef (d : Nat) (r : List C) : (r.map Abs.K.c).all (Abs.K.noRef d) = true := by induction r <;> simp_all [Abs.K.noRef]
theorem r_map_scrub (τ : Nat) (r : List C) : (r.map Abs.K.c).map (Abs.K.scrub τ) = r.map Abs.K.c := by simp [Abs.K.scrub]
theorem r_map_nrm (r : List C) : (r.map Abs.K.c).map Abs.K.nrm = (C.normRow r).map Abs.K.c := by
  induction r with
  | nil => rfl
  | cons a r ih => simp only [List.map_cons, ih]; rfl
theorem r_map_frz (τ : Nat) (ob : O) (r : List C) : (r.map Abs.K.c).map (Abs.K.frz τ ob) = r.map Abs.K.c := by simp [Abs.K.frz]
theorem encRule_len (r : Rule) : (encRule r).length = 4 := by simp [encRule, encT_len]
theorem encOrder_len (r : Order) : (encOrder r).length = 4 := by simp [encOrder]
theorem encChoice_len (r : Choice) : (encChoice r).length = 3 := by simp [encChoice]
theorem encCell_len (r : Cell) : (encCell r).length = 2 := by simp [encCell]
theorem f_rule0 (r : Rule) : ofRow false (List.take 1 (List.map Abs.K.c (encRule r))) = .k (.c (.int .i64 r.ask)) := rfl
theorem f_rule1 (r : Rule) : ofRow true (List.take 3 (List.drop 1 (List.map Abs.K.c (encRule r)))) = .agg (encT r.term) := by
  have : List.drop 1 (List.map Abs.K.c (encRule r)) = List.map Abs.K.c (encT r.term) := rfl
  rw [this]; exact r_ofRow_take (encT_len _)
theorem g_rule0 (r : Rule) : (encRule r).getD 0 default = .int .i64 r.ask := rfl
theorem g_rule1 (r : Rule) : List.take 3 (List.drop 1 (encRule r)) = encT r.term := by
  have : List.drop 1 (encRule r) = encT r.term := rfl
  rw [this, List.take_of_length_le (by rw [encT_len]; omega)]
theorem f_ch0 (c : Choice) : ofRow false (List.take 1 (List.map Abs.K.c (encChoice c))) = .k (.c (.int .i64 c.ask)) := rfl
theorem f_ch1 (c : Choice) : ofRow false (List.take 1 (List.drop 1 (List.map Abs.K.c (encChoice c)))) = .k (.c (.int .i64 c.by_)) := rfl
theorem f_or2 (o : Order) : ofRow false (List.take 1 (List.drop 2 (List.map Abs.K.c (encOrder o)))) = .k (.c (lstC 3 (o.choices.map encChoice))) := rfl
theorem f_or3 (o : Order) : ofRow false (List.take 1 (List.drop 3 (List.map Abs.K.c (encOrder o)))) = .k (.c (lstC 4 (o.rules.map encRule))) := rfl
theorem len_rules {o : Order} {l : List V} (hm : V.agg (encOrder o) ∈ l) (h : ∀ v, v ∈ l → ∀ c, c ∈ v.topC → ∀ sz nl rows, c = .list sz nl rows → rows.length ≤ 9223372036854775807) :
    o.choices.length ≤ 9223372036854775807 ∧ o.rules.length ≤ 9223372036854775807 := by
  refine ⟨?_, ?_⟩
  · have := h _ hm (lstC 3 (o.choices.map encChoice)) (by simp [V.topC, encOrder]) _ _ _ rfl
    simpa using this
  · have := h _ hm (lstC 4 (o.rules.map encRule)) (by simp [V.topC, encOrder]) _ _ _ rfl
    simpa using this
theorem len_lst {sz : Nat} {rows : List (List C)} {l : List V} (hm : lst sz rows ∈ l) (h : ∀ v, v ∈ l → ∀ c, c ∈ v.topC → ∀ sz nl rows, c = .list sz nl rows → rows.length ≤ 9223372036854775807) : rows.length ≤ 9223372036854775807 :=
  h _ hm (lstC sz rows) (by simp [V.topC]) _ _ _ rfl
theorem b_tf : (true == false) = false := id rfl
theorem b_ft : (false == true) = false := id rfl
section
variable {P : Program} {f : FuncId} {vs : List V} {K : KK} {d : Nat} {ts : TS} {os : OS}
theorem call_s {args : List V} {r : V} {X : Prop} (hs : Spec P f args (fun r' => r' = r)) (hk : K (insT d r ts) os)
    (hp : vs.all (fun v => (lendL os v).isPure) = true := by simp [lendL, lendO, lookO, V.isPure])
    (ha : vs.map (fun v => (lendL os v).norm) = args := by simp [lendL, lendO, lookO, V.norm, encT_eq, encRule, encOrder, encChoice, encCell, norm_list, lst]) (hr : r.scalar = true := by rfl) : callK P f vs [] K (some d) ts os ∨ X := by
  refine .inl ⟨hp, r, .inl ?_, ?_⟩
  · simpa [ha] using hs
  · rw [if_pos hr]; exact hk
theorem call_c {cs : List C} {args : List V} {r : V} {X : Prop} (hs : Spec P f args (fun r' => r' = r)) (hk : K (insT d r ts) os)
    (hp : vs.all (fun v => (lendL os v).isPure) = true := by simp [lendL, lendO, lookO, V.isPure])
    (ha : (vs.map (fun v => (lendL os v).norm) ++ cs.map fun c => .k (.c c.norm)) = args := by simp [lendL, lendO, lookO, V.norm, encT_eq, encRule, encOrder, encChoice, encCell, norm_list, lst]) (hr : r.scalar = true := by rfl) : callK P f vs cs K (some d) ts os ∨ X := by
  refine .inl ⟨hp, r, .inl (by rw [ha]; exact hs), ?_⟩
  rw [if_pos hr]; exact hk
theorem call_r {args : List V} {r : V} {X : Prop} (hs : Spec P f args (fun r' => r' = r)) (hk : retK r K ts os (some d))
    (hp : vs.all (fun v => (lendL os v).isPure) = true := by simp [lendL, lendO, lookO, V.isPure])
    (ha : vs.map (fun v => (lendL os v).norm) = args := by simp [lendL, lendO, lookO, V.norm, encT_eq, encRule, encOrder, encChoice, encCell, norm_list, lst])
    (ht : vs.all (fun v => v.toks.isEmpty) = true := by simp [V.toks, K.toks]) (hr : r.scalar = false := by rfl) : callK P f vs [] K (some d) ts os ∨ X := by
  refine .inl ⟨hp, r, .inl (by simpa [ha] using hs), ?_⟩
  rw [if_neg (by simp [hr])]
  exact ⟨ht, hk⟩
theorem call_l {args : List V} {e sz : Nat} {nl : Option Bool} {rows : List (List C)} {X : Prop} (hs : Spec P f args (fun r' => r' = .k (.newl e sz nl rows))) (hk : K (insT d (.k (.own d)) ts) (insO d (.arr e sz nl rows) os))
    (hp : vs.all (fun v => (lendL os v).isPure) = true := by simp [lendL, lendO, lookO, V.isPure])
    (ha : vs.map (fun v => (lendL os v).norm) = args := by simp [lendL, lendO, lookO, V.norm, encT_eq, encRule, encOrder, encChoice, encCell, norm_list, lst])
    (ht : vs.all (fun v => v.toks.isEmpty) = true := by simp [V.toks, K.toks]) (hf : freeB d ts os := by first | rfl | simp [freeB, freeT, freeO, V.noRef, V.noRefL, O.noRef, Abs.K.noRef, r_all_noRef]) : callK P f vs [] K (some d) ts os ∨ X := by
  refine .inl ⟨hp, _, .inl (by simpa [ha] using hs), ?_⟩
  rw [if_neg (by simp [V.scalar])]
  refine ⟨ht, ?_⟩
  show regK _ _ _ _ _ _
  refine ⟨⟨⟨hf, .inl rfl⟩, trivial⟩, hk⟩
theorem callQ_l {args : List V} {r : V} (hs : Spec P f args (fun r' => r' = r)) (hk : K (insT d r.fz ts) os)
    (hp : vs.all (fun v => (lendL os v).isPure) = true := by simp [lendL, lendO, lookO, V.isPure])
    (ha : vs.map (fun v => (lendL os v).norm) = args := by simp [lendL, lendO, lookO, V.norm, encT_eq, encRule, encOrder, encChoice, encCell, norm_list, lst]) (hr : vs.all (fun v => v.toks.isEmpty) = true := by simp [V.toks, K.toks]) : callQK P f vs [] K d ts os :=
  ⟨hp, r, by simpa [ha] using hs, .inr hr, hk⟩
theorem call_scalar {args : List V} {r : V} {X : Prop} (hs : Spec P f args (fun r' => r' = r)) (hp : vs.all (fun v => (lendL os v).isPure) = true) (ha : vs.map (fun v => (lendL os v).norm) = args) (hr : r.scalar = true)
    (hk : K (insT d r ts) os) : callK P f vs [] K (some d) ts os ∨ X := by
  refine .inl ⟨hp, r, .inl ?_, ?_⟩
  · simpa [ha] using hs
  · rw [if_pos hr]; exact hk
theorem callQ_scalar {args : List V} {r : V} (hs : Spec P f args (fun r' => r' = r)) (hp : vs.all (fun v => (lendL os v).isPure) = true) (ha : vs.map (fun v => (lendL os v).norm) = args) (hr : r.scalar = true)
    (hk : K (insT d r.fz ts) os) : callQK P f vs [] K d ts os :=
  ⟨hp, r, by simpa [ha] using hs, .inl hr, hk⟩
end
end Go.Abs


namespace Go.Abs
section
variable {P : Program}
theorem shape_int {n : Nat} {t : TypeId} {r : List C} {k : IntKind} (hu : P.underlying t = some (.int k)) (h : Shape P n t r) : ∃ m : Int, r = [.int k m] ∧ (Lit.int k m).wf = true := by
  cases n with
  | zero => exact h.elim
  | succ n => simp only [Shape, hu] at h; exact h
theorem shape_bool {n : Nat} {t : TypeId} {r : List C} (hu : P.underlying t = some .bool) (h : Shape P n t r) : ∃ b : Bool, r = [.bool b] := by
  cases n with
  | zero => exact h.elim
  | succ n => simp only [Shape, hu] at h; exact h
theorem shape_str {n : Nat} {t : TypeId} {r : List C} (hu : P.underlying t = some .string) (h : Shape P n t r) : ∃ s : List UInt8, r = [.str s] ∧ s.length ≤ 9223372036854775807 := by
  cases n with
  | zero => exact h.elim
  | succ n => simp only [Shape, hu] at h; exact h
theorem shape_slice {n : Nat} {t e : TypeId} {r : List C} (hu : P.underlying t = some (.slice e)) (h : Shape P n t r) : ∃ m rows, n = m + 1 ∧ r = [lstC (P.cellsOf e) rows] ∧ rows.length ≤ 9223372036854775807 ∧ ∀ x ∈ rows, Shape P m e x := by
  cases n with
  | zero => exact h.elim
  | succ n => simp only [Shape, hu] at h; obtain ⟨rows, h1, h2, h3⟩ := h; exact ⟨n, rows, rfl, h1, h2, h3⟩
theorem shape_struct {n : Nat} {t : TypeId} {fs : Array Field} {r : List C} (hu : P.underlying t = some (.struct fs)) (h : Shape P n t r) : ∃ m rs, n = m + 1 ∧ r = rs.flatten ∧ ShapeL (Shape P m) (fs.toList.map (·.type)) rs := by
  cases n with
  | zero => exact h.elim
  | succ n => simp only [Shape, hu] at h; obtain ⟨rs, h1, h2⟩ := h; exact ⟨n, rs, rfl, h1, h2⟩
theorem shapeL2 {S : TypeId → List C → Prop} {a b : TypeId} {rs : List (List C)} (h : ShapeL S [a, b] rs) : ∃ x y, rs = [x, y] ∧ S a x ∧ S b y := by
  match rs, h with
  | [x, y], h => exact ⟨x, y, rfl, h.1, h.2.1⟩
theorem shapeL3 {S : TypeId → List C → Prop} {a b c : TypeId} {rs : List (List C)} (h : ShapeL S [a, b, c] rs) : ∃ x y z, rs = [x, y, z] ∧ S a x ∧ S b y ∧ S c z := by
  match rs, h with
  | [x, y, z], h => exact ⟨x, y, z, rfl, h.1, h.2.1, h.2.2.1⟩
theorem shapeL4 {S : TypeId → List C → Prop} {a b c d : TypeId} {rs : List (List C)} (h : ShapeL S [a, b, c, d] rs) : ∃ x y z u, rs = [x, y, z, u] ∧ S a x ∧ S b y ∧ S c z ∧ S d u := by
  match rs, h with
  | [x, y, z, u], h => exact ⟨x, y, z, u, rfl, h.1, h.2.1, h.2.2.1, h.2.2.2.1⟩
theorem rows_of {α : Type} {S : List C → Prop} (enc : α → List C) (hS : ∀ r, S r → ∃ a, r = enc a) : ∀ (rows : List (List C)), (∀ r ∈ rows, S r) → ∃ l : List α, rows = l.map enc
  | [], _ => ⟨[], rfl⟩
  | r :: rows, h => by
    obtain ⟨a, ha⟩ := hS r (h r (by simp))
    obtain ⟨l, hl⟩ := rows_of enc hS rows (fun x hx => h x (by simp [hx]))
    exact ⟨a :: l, by rw [ha, hl]; rfl⟩
structure TermTypes (P : Program) (tI tB tS tT tLT tR tLR tC tLC tO : TypeId) : Prop where
  i : P.underlying tI = some (.int .i64)
  b : P.underlying tB = some .bool
  s : P.underlying tS = some .string
  t : ∃ fs, P.underlying tT = some (.struct fs) ∧ fs.toList.map (·.type) = [tI, tI, tLT]
  lt : P.underlying tLT = some (.slice tT) ∧ P.cellsOf tT = 3
  r : ∃ fs, P.underlying tR = some (.struct fs) ∧ fs.toList.map (·.type) = [tI, tT]
  lr : P.underlying tLR = some (.slice tR) ∧ P.cellsOf tR = 4
  c : ∃ fs, P.underlying tC = some (.struct fs) ∧ fs.toList.map (·.type) = [tI, tI, tB]
  lc : P.underlying tLC = some (.slice tC) ∧ P.cellsOf tC = 3
  o : ∃ fs, P.underlying tO = some (.struct fs) ∧ fs.toList.map (·.type) = [tS, tB, tLC, tLR]
variable {tI tB tS tT tLT tR tLR tC tLC tO : TypeId}
theorem shape_term (h : TermTypes P tI tB tS tT tLT tR tLR tC tLC tO) : ∀ (n : Nat) (r : List C), Shape P n tT r → ∃ t : Term, r = encT t := by
  intro n
  induction n using Nat.strongRecOn with
  | ind n ih =>
    intro r hr
    obtain ⟨fs, hf, hl⟩ := h.t
    obtain ⟨m, rs, rfl, rfl, hs⟩ := shape_struct hf hr
    rw [hl] at hs
    obtain ⟨x, y, z, rfl, h1, h2, h3⟩ := shapeL3 hs
    obtain ⟨op, rfl, _⟩ := shape_int h.i h1
    obtain ⟨k, rfl, _⟩ := shape_int h.i h2
    obtain ⟨m', rows, rfl, rfl, _, h4⟩ := shape_slice h.lt.1 h3
    obtain ⟨l, rfl⟩ := rows_of encT (fun r hr => ih m' (by omega) r hr) rows h4
    exact ⟨.mk op k l, by rw [encT_eq, h.lt.2]; rfl⟩
theorem shape_rule (h : TermTypes P tI tB tS tT tLT tR tLR tC tLC tO) {n : Nat} {r : List C} (hr : Shape P n tR r) : ∃ x : Rule, r = encRule x := by
  obtain ⟨fs, hf, hl⟩ := h.r
  obtain ⟨m, rs, rfl, rfl, hs⟩ := shape_struct hf hr
  rw [hl] at hs
  obtain ⟨x, y, rfl, h1, h2⟩ := shapeL2 hs
  obtain ⟨a, rfl, _⟩ := shape_int h.i h1
  obtain ⟨t, rfl⟩ := shape_term h m y h2
  exact ⟨⟨a, t⟩, by simp [encRule]⟩
theorem shape_choice (h : TermTypes P tI tB tS tT tLT tR tLR tC tLC tO) {n : Nat} {r : List C} (hr : Shape P n tC r) : ∃ x : Choice, r = encChoice x := by
  obtain ⟨fs, hf, hl⟩ := h.c
  obtain ⟨m, rs, rfl, rfl, hs⟩ := shape_struct hf hr
  rw [hl] at hs
  obtain ⟨x, y, z, rfl, h1, h2, h3⟩ := shapeL3 hs
  obtain ⟨a, rfl, _⟩ := shape_int h.i h1
  obtain ⟨b, rfl, _⟩ := shape_int h.i h2
  obtain ⟨c, rfl⟩ := shape_bool h.b h3
  exact ⟨⟨a, b, c⟩, rfl⟩
theorem shape_order (h : TermTypes P tI tB tS tT tLT tR tLR tC tLC tO) {n : Nat} {r : List C} (hr : Shape P n tO r) : ∃ x : Order, r = encOrder x := by
  obtain ⟨fs, hf, hl⟩ := h.o
  obtain ⟨m, rs, rfl, rfl, hs⟩ := shape_struct hf hr
  rw [hl] at hs
  obtain ⟨x, y, z, u, rfl, h1, h2, h3, h4⟩ := shapeL4 hs
  obtain ⟨a, rfl, _⟩ := shape_str h.s h1
  obtain ⟨b, rfl⟩ := shape_bool h.b h2
  obtain ⟨_, rows, _, rfl, _, h5⟩ := shape_slice h.lc.1 h3
  obtain ⟨_, rows', _, rfl, _, h6⟩ := shape_slice h.lr.1 h4
  obtain ⟨l, rfl⟩ := rows_of encChoice (fun r hr => shape_choice h hr) rows h5
  obtain ⟨l', rfl⟩ := rows_of encRule (fun r hr => shape_rule h hr) rows' h6
  exact ⟨⟨a, b, l, l'⟩, by rw [h.lc.2, h.lr.2]; rfl⟩
theorem arg_order (h : TermTypes P tI tB tS tT tLT tR tLR tC tLC tO) {n : Nat} {r : List C} (hr : Shape P n tO r) : ∃ x : Order, argV P tO r = .agg (encOrder x) := by
  obtain ⟨x, rfl⟩ := shape_order h hr
  obtain ⟨fs, hf, _⟩ := h.o
  exact ⟨x, by simp only [argV, hf]⟩
end
end Go.Abs


namespace Go.Abs
section
variable {P : Program}
theorem arg_ints {n : Nat} {t e : TypeId} {r : List C} (ht : P.underlying t = some (.slice e)) (he : P.underlying e = some (.int .i64)) (hc : P.cellsOf e = 1) (hr : Shape P n t r) : ∃ l : List Int, argV P t r = lst 1 (ints l) := by
  obtain ⟨m, rows, rfl, rfl, _, h⟩ := shape_slice ht hr
  obtain ⟨l, rfl⟩ := rows_of encI (fun r hr => by obtain ⟨x, rfl, _⟩ := shape_int he hr; exact ⟨x, rfl⟩) rows h
  exact ⟨l, by simp only [argV, ht, hc]; rfl⟩
end
end Go.Abs


namespace Go.Abs
def cut (n : Int) : Int := min (max n (-1099511627776)) 1099511627776
theorem cut_eq (n : Int) : cut n = n ↔ -1099511627776 ≤ n ∧ n ≤ 1099511627776 := by unfold cut; omega
def varType (v : Int) : Option Int := if v < 0 ∨ v > 19 then none else if v < 7 then some 0 else some 1
def varTypeV (v : Int) : V := .tup [.int .i64 ((varType v).getD 0), .bool (varType v).isSome]
def leaf (t : Term) : Int × Int :=
  if t.args.length > 0 then (0, 2) else if t.op = 0 then (if cut t.n ≠ t.n then (0, 3) else (0, 0)) else if t.op = 1 then (if t.n < 0 ∨ t.n > 1 then (0, 3) else (1, 0))
  else match varType t.n with | none => (0, 10) | some k => (k, 0)
def pairV (p : Int × Int) : V := .tup [.int .i64 p.1, .int .i64 p.2]
def arity (op : Int) : Int := if op = 0 ∨ op = 1 ∨ op = 2 then 0 else if op = 3 then 1 else if op = 6 then 3 else 2
mutual
def nodes : Term → Int → Int → Int
  | .mk _ _ a, k, lv => if lv < 1 then -1 else nodesL a (k - 1) (lv - 1)
def nodesL : List Term → Int → Int → Int
  | [], k, _ => k
  | t :: l, k, lv => if k < 0 then k else nodesL l (nodes t k lv) lv
end
theorem nodes_eq (t : Term) (k lv : Int) : nodes t k lv = if lv < 1 then -1 else nodesL t.args (k - 1) (lv - 1) := by cases t; simp [nodes, Term.args]
mutual
theorem nodes_bd : ∀ (t : Term) (k lv : Int), 0 ≤ k → -1 ≤ nodes t k lv ∧ nodes t k lv ≤ k
  | .mk _ _ a, k, lv, h => by
    simp only [nodes]
    split
    · omega
    · have := nodesL_bd a (k - 1) (lv - 1) (by omega); omega
theorem nodesL_bd : ∀ (l : List Term) (k lv : Int), -1 ≤ k → -1 ≤ nodesL l k lv ∧ nodesL l k lv ≤ k
  | [], k, lv, h => by simp [nodesL, h]
  | t :: l, k, lv, h => by
    simp only [nodesL]
    split
    · omega
    · have h1 := nodes_bd t k lv (by omega)
      have := nodesL_bd l (nodes t k lv) lv h1.1
      omega
end
theorem nodesL_drop {l : List Term} {i : Nat} (h : i < l.length) (k lv : Int) : nodesL (l.drop i) k lv = if k < 0 then k else nodesL (l.drop (i + 1)) (nodes l[i] k lv) lv := by
  rw [List.drop_eq_getElem_cons h, nodesL]
theorem nodesL_neg (l : List Term) (k lv : Int) (h : k < 0) : nodesL l k lv = k := by
  cases l <;> simp [nodesL, h]
theorem norm_T (t : Term) : C.normRow [C.int .i64 t.op, C.int .i64 t.n, C.list (if (List.map encT t.args).isEmpty = true then 0 else 3) none (List.map encT t.args)] = encT t := by
  have h := encT_norm t
  rw [encT_eq] at h
  exact h.trans (encT_eq t).symm
def measL (m : Term → Int) : List Term → Int → Int
  | [], n => n
  | a :: l, n => if n + m a > 60 then n + m a else measL m l (n + m a)
def meas : Nat → Term → Int
  | 0, _ => 61
  | f + 1, t => measL (meas f) t.args 1
theorem measL_bd {m : Term → Int} {M : Int} (hm : ∀ a, 1 ≤ m a ∧ m a ≤ M) (hM : 1 ≤ M) : ∀ (l : List Term) (n : Int), 1 ≤ n → n ≤ 60 → 1 ≤ measL m l n ∧ measL m l n ≤ 60 + M
  | [], n, h1, h2 => by simp only [measL]; omega
  | a :: l, n, h1, h2 => by
    simp only [measL]
    have := hm a
    split
    · omega
    · exact measL_bd hm hM l _ (by omega) (by omega)
theorem meas_bd : ∀ (f : Nat) (t : Term), 1 ≤ meas f t ∧ meas f t ≤ 61 + 60 * f
  | 0, t => by simp [meas]
  | f + 1, t => by
    have := measL_bd (m := meas f) (M := 61 + 60 * f) (meas_bd f) (by omega) t.args 1 (by omega) (by omega)
    simp only [meas]
    omega
theorem measL_drop {m : Term → Int} {l : List Term} {i : Nat} (h : i < l.length) (n : Int) : measL m (l.drop i) n = if n + m l[i] > 60 then n + m l[i] else measL m (l.drop (i + 1)) (n + m l[i]) := by
  rw [List.drop_eq_getElem_cons h, measL]
def shapeArgs (op : Int) : List Int := if op = 3 then [1] else if op = 4 ∨ op = 5 then [1, 1] else if op = 6 then [1, -1, -1] else if op = 7 then [0, 0] else if op = 8 then [-1, -1] else [0, 0]
def shapeRes (op : Int) : Int := if op = 3 then 1 else if op = 4 ∨ op = 5 then 1 else if op = 6 then -1 else if op = 7 then 1 else if op = 8 then 1 else 0
def shapeV (op : Int) : V := .agk [.newl 3 1 none (ints (shapeArgs op)), .c (.int .i64 (shapeRes op))]
def fit : List Int → List Int → Int → Option Int
  | [], _, c => some c
  | _, [], c => some c
  | w :: ws, ty :: tys, c =>
    let c' := if w = -1 ∧ c = -1 then ty else c
    if ty ≠ (if w = -1 then c' else w) then none else fit ws tys c'
def node (t : Term) (tys : List Int) : Int × Int :=
  if t.op < 0 ∨ t.op > 13 then (0, 1) else if t.op = 0 ∨ t.op = 1 ∨ t.op = 2 then leaf t
  else if tys.length ≠ (shapeArgs t.op).length ∨ t.n ≠ 0 then (0, 2)
  else match fit (shapeArgs t.op) tys (-1) with
    | none => (0, 11)
    | some c => if shapeRes t.op = -1 then (c, 0) else (shapeRes t.op, 0)
mutual
def chk : Term → Int × Int
  | .mk o n a => if (chkA a []).1 ≠ 0 then (0, (chkA a []).1) else node (.mk o n a) (chkA a []).2
def chkA : List Term → List Int → Int × List Int
  | [], ty => (0, ty)
  | t :: l, ty => if (chk t).2 ≠ 0 then ((chk t).2, []) else chkA l (ty ++ [(chk t).1])
end
theorem chk_eq (t : Term) : chk t = if (chkA t.args []).1 ≠ 0 then (0, (chkA t.args []).1) else node t (chkA t.args []).2 := by cases t; simp only [chk, Term.args]; rfl
theorem chkA_drop {l : List Term} {i : Nat} (h : i < l.length) (ty : List Int) : chkA (l.drop i) ty = if (chk l[i]).2 ≠ 0 then ((chk l[i]).2, []) else chkA (l.drop (i + 1)) (ty ++ [(chk l[i]).1]) := by
  rw [List.drop_eq_getElem_cons h, chkA]
def Narrow : Nat → Term → Prop
  | 0, _ => False
  | f + 1, t => t.args.length ≤ 1000 ∧ ∀ a ∈ t.args, Narrow f a
theorem set_at {l : List Int} {n : Nat} {x : Int} {i : Nat} (hl : l.length = i) (h : i < n) :
    (ints l ++ List.replicate (n - i) [C.int .i64 0]).set i [C.int .i64 x] = ints (l ++ [x]) ++ List.replicate (n - (i + 1)) [C.int .i64 0] := by
  obtain ⟨m, hm⟩ : ∃ m, n - i = m + 1 := ⟨n - i - 1, by omega⟩
  have hm2 : n - (i + 1) = m := by omega
  rw [hm, hm2, List.replicate_succ, List.set_append_right _ _ (by simp [ints, hl])]
  simp [ints, hl]
theorem fit_drop {ws tys : List Int} {j : Nat} (h1 : j < ws.length) (h2 : j < tys.length) (c : Int) : fit (ws.drop j) (tys.drop j) c =
    if tys[j] ≠ (if ws[j] = -1 then (if ws[j] = -1 ∧ c = -1 then tys[j] else c) else ws[j]) then none else fit (ws.drop (j + 1)) (tys.drop (j + 1)) (if ws[j] = -1 ∧ c = -1 then tys[j] else c) := by
  rw [List.drop_eq_getElem_cons h1, List.drop_eq_getElem_cons h2, fit]
theorem fit_end (ws tys : List Int) (c : Int) (h : ws = []) : fit ws tys c = some c := by subst h; cases tys <;> rfl
theorem shape_small (op : Int) : (shapeArgs op).length ≤ 3 := by unfold shapeArgs; (repeat' split) <;> simp
end Go.Abs


namespace Go.Abs
theorem Term.ind {P : Term → Prop} (h : ∀ o n a, (∀ x ∈ a, P x) → P (.mk o n a)) : ∀ t, P t := by
  have key : ∀ k, ∀ t : Term, SizeOf.sizeOf t < k → P t := by
    intro k
    induction k with
    | zero => intro t ht; omega
    | succ k ih =>
      rintro ⟨o, n, a⟩ ht
      refine h o n a fun x hx => ih x ?_
      have := List.sizeOf_lt_of_mem hx
      simp at ht
      omega
  exact fun t => key _ t (Nat.lt_succ_self _)
def checkT (t : Term) : Int × Int := if nodes t 60 8 < 0 then (0, 6) else chk t
def few (t : Term) : Bool := decide (nodes t 100 20 ≥ 0)
theorem measL_ge {m : Term → Int} (hm : ∀ a, 1 ≤ m a) : ∀ (l : List Term) (n : Int), n ≤ measL m l n
  | [], n => by simp [measL]
  | b :: l, n => by
    have := hm b
    have := measL_ge hm l (n + m b)
    simp only [measL]; split <;> omega
theorem meas_nodes : ∀ (f : Nat),
    (∀ (t : Term) (c : Int), 0 ≤ c → c < 60 → (nodes t (60 - c) f < 0 ↔ c + meas f t > 60) ∧ (0 ≤ nodes t (60 - c) f → nodes t (60 - c) f = 60 - c - meas f t)) ∧
    (∀ (l : List Term) (c n : Int), 0 ≤ c → 1 ≤ n → c + n ≤ 60 → (nodesL l (60 - c - n) f < 0 ↔ c + measL (meas f) l n > 60) ∧ (0 ≤ nodesL l (60 - c - n) f → nodesL l (60 - c - n) f = 60 - c - measL (meas f) l n)) := by
  intro f
  induction f with
  | zero =>
    have h1 : ∀ (t : Term) (c : Int), 0 ≤ c → c < 60 → (nodes t (60 - c) ((0 : Nat) : Int) < 0 ↔ c + meas 0 t > 60) ∧ (0 ≤ nodes t (60 - c) ((0 : Nat) : Int) → nodes t (60 - c) ((0 : Nat) : Int) = 60 - c - meas 0 t) := by
      intro t c hc h60
      rw [nodes_eq, if_pos (by omega)]
      simp only [meas]
      omega
    refine ⟨h1, fun l => ?_⟩
    cases l with
    | nil =>
      intro c n hc hn h
      show (60 - c - n < 0 ↔ c + n > 60) ∧ (0 ≤ 60 - c - n → 60 - c - n = 60 - c - n)
      exact ⟨by omega, fun _ => rfl⟩
    | cons a l =>
      intro c n hc hn h
      have e1 : nodes a (60 - c - n) ((0 : Nat) : Int) = -1 := by rw [nodes_eq, if_pos (by omega)]
      have h0 : ¬ (60 - c - n < 0) := by omega
      have h6 : n + 61 > 60 := by omega
      simp only [nodesL, measL, meas, e1, if_neg h0, if_pos h6]
      rw [nodesL_neg _ _ _ (by omega)]
      omega
  | succ f ih =>
    have h1 : ∀ (t : Term) (c : Int), 0 ≤ c → c < 60 → (nodes t (60 - c) ((f + 1 : Nat) : Int) < 0 ↔ c + meas (f + 1) t > 60) ∧ (0 ≤ nodes t (60 - c) ((f + 1 : Nat) : Int) → nodes t (60 - c) ((f + 1 : Nat) : Int) = 60 - c - meas (f + 1) t) := by
      intro t c hc h60
      rw [nodes_eq, if_neg (by omega)]
      have := ih.2 t.args c 1 hc (by omega) (by omega)
      have e : ((f + 1 : Nat) : Int) - 1 = (f : Nat) := by omega
      rw [e]
      simp only [meas]
      exact this
    refine ⟨h1, fun l => ?_⟩
    induction l with
    | nil =>
      intro c n hc hn h
      show (60 - c - n < 0 ↔ c + n > 60) ∧ (0 ≤ 60 - c - n → 60 - c - n = 60 - c - n)
      exact ⟨by omega, fun _ => rfl⟩
    | cons a l ihl =>
      intro c n hc hn h
      simp only [nodesL, measL]
      rw [if_neg (by omega)]
      have hm := (meas_bd (f + 1) a).1
      by_cases hb : c + n = 60
      · have e0 : 60 - c - n = 0 := by omega
        have hn : nodes a (60 - c - n) ((f + 1 : Nat) : Int) < 0 := by
          have := (nodes_bd a (60 - c - n) ((f + 1 : Nat) : Int) (by omega))
          rw [nodes_eq, if_neg (by omega), nodesL_neg _ _ _ (by omega)]; omega
        rw [nodesL_neg _ _ _ hn]
        split
        · have := (nodes_bd a (60 - c - n) ((f + 1 : Nat) : Int) (by omega)).1; omega
        · have := measL_ge (m := meas (f + 1)) (fun a => (meas_bd (f + 1) a).1) l (n + meas (f + 1) a)
          have := (nodes_bd a (60 - c - n) ((f + 1 : Nat) : Int) (by omega)).1
          omega
      · obtain ⟨g1, g2⟩ := h1 a (c + n) (by omega) (by omega)
        have e1 : 60 - (c + n) = 60 - c - n := by omega
        rw [e1] at g1 g2
        by_cases hneg : nodes a (60 - c - n) ((f + 1 : Nat) : Int) < 0
        · rw [nodesL_neg _ _ _ hneg]
          have := g1.1 hneg
          split
          · omega
          · have := measL_ge (m := meas (f + 1)) (fun a => (meas_bd (f + 1) a).1) l (n + meas (f + 1) a)
            omega
        · have e2 := g2 (by omega)
          rw [e2]
          have hnb : ¬ (c + n + meas (f + 1) a > 60) := fun h => hneg (g1.2 h)
          rw [if_neg (by omega)]
          have := ihl c (n + meas (f + 1) a) hc (by omega) (by omega)
          have e3 : 60 - c - (n + meas (f + 1) a) = 60 - (c + n) - meas (f + 1) a := by omega
          rw [e3] at this
          have e4 : 60 - c - n - meas (f + 1) a = 60 - (c + n) - meas (f + 1) a := by omega
          rw [e4]; exact this
theorem meas_check (t : Term) : meas 8 t > 60 ↔ nodes t 60 8 < 0 := by
  have := ((meas_nodes 8).1 t 0 (by omega) (by omega)).1
  simp only [Int.sub_zero, Int.zero_add] at this
  exact this.symm
theorem nodesL_len : ∀ (l : List Term) (k lv : Int), 0 ≤ nodesL l k lv → (l.length : Int) ≤ k
  | [], k, lv, h => by simpa [nodesL] using h
  | t :: l, k, lv, h => by
    simp only [nodesL] at h
    split at h
    · omega
    · have h1 := nodesL_len l _ lv h
      have h2 : nodes t k lv ≤ k - 1 := by
        rw [nodes_eq]
        split
        · omega
        · have := (nodesL_bd t.args (k - 1) (lv - 1) (by omega)).2; omega
      simp only [List.length_cons]
      omega
theorem nodesL_mem : ∀ (l : List Term) (k lv : Int), 0 ≤ nodesL l k lv → ∀ a ∈ l, ∃ k', k' ≤ k ∧ 0 ≤ nodes a k' lv
  | [], _, _, _, a, h => by simp at h
  | t :: l, k, lv, h, a, ha => by
    simp only [nodesL] at h
    split at h
    · omega
    · rcases List.mem_cons.1 ha with rfl | ha
      · refine ⟨k, Int.le_refl _, ?_⟩
        by_cases hn : nodes a k lv < 0
        · rw [nodesL_neg _ _ _ hn] at h; omega
        · omega
      · obtain ⟨k', h1, h2⟩ := nodesL_mem l _ lv h a ha
        have := (nodes_bd t k lv (by omega)).2
        exact ⟨k', by omega, h2⟩
theorem narrow_of : ∀ (f : Nat) (t : Term) (k : Int), k ≤ 1000 → 0 ≤ nodes t k f → Narrow f t
  | 0, t, k, _, h => by rw [nodes_eq] at h; simp at h
  | f + 1, t, k, hk, h => by
    rw [nodes_eq, if_neg (by omega)] at h
    have e : ((f + 1 : Nat) : Int) - 1 = (f : Nat) := by omega
    rw [e] at h
    have := nodesL_len _ _ _ h
    refine ⟨by omega, fun a ha => ?_⟩
    obtain ⟨k', h1, h2⟩ := nodesL_mem _ _ _ h a ha
    exact narrow_of f a k' (by omega) h2
mutual
def used : Term → Int → Bool
  | .mk o n a, v => if o = 2 then decide (n = v) else usedL a v
def usedL : List Term → Int → Bool
  | [], _ => false
  | t :: l, v => if used t v = true then true else usedL l v
end
theorem used_eq (t : Term) (v : Int) : used t v = if t.op = 2 then decide (t.n = v) else usedL t.args v := by cases t; simp only [used, Term.op, Term.n, Term.args]; rfl
mutual
def coll : Term → List Int → List Int
  | .mk o n a, acc => collL a (if o = 2 then acc ++ [n] else acc)
def collL : List Term → List Int → List Int
  | [], acc => acc
  | t :: l, acc => collL l (coll t acc)
end
theorem coll_eq (t : Term) (acc : List Int) : coll t acc = collL t.args (if t.op = 2 then acc ++ [t.n] else acc) := by cases t; simp only [coll, Term.op, Term.n, Term.args]; rfl
theorem collL_drop {l : List Term} {i : Nat} (h : i < l.length) (acc : List Int) : collL (l.drop i) acc = collL (l.drop (i + 1)) (coll l[i] acc) := by
  rw [List.drop_eq_getElem_cons h, collL]
def upto (n : Nat) : List Int := (List.range n).map fun (i : Nat) => (i : Int)
def varsT (t : Term) : List Int := if (checkT t).2 ≠ 0 then [] else (upto 20).filter (used t)
def valueC (v : Int) (cells : List Cell) : Cell :=
  if v < 0 ∨ v ≥ cells.length then ⟨false, 0⟩
  else if (cells.getD v.toNat ⟨false, 0⟩).known = false then ⟨false, 0⟩
  else if (varType v).getD 0 = 0 then ⟨true, cut (cells.getD v.toNat ⟨false, 0⟩).n⟩
  else if (cells.getD v.toNat ⟨false, 0⟩).n ≠ 0 then ⟨true, 1⟩ else ⟨true, 0⟩
def yes (b : Bool) : Cell := if b then ⟨true, 1⟩ else ⟨true, 0⟩
def logic (a b : Cell) (alone : Int) : Cell :=
  if a.known = true ∧ a.n = alone ∨ b.known = true ∧ b.n = alone then ⟨true, alone⟩
  else if a.known = true ∧ b.known = true then ⟨true, 1 - alone⟩ else ⟨false, 0⟩
def times (a b : Int) : Int := cut (a * b)
def number (op a b : Int) : Cell :=
  if op = 7 then yes (decide (a < b)) else if op = 8 then yes (decide (a = b)) else if op = 9 then ⟨true, cut (a + b)⟩ else if op = 10 then ⟨true, cut (a - b)⟩
  else if op = 11 then ⟨true, times a b⟩ else if op = 12 then ⟨true, min a b⟩ else ⟨true, max a b⟩
def evalN (op : Int) (l : List Cell) : Cell :=
  if op = 3 then (if (l.getD 0 ⟨false, 0⟩).known = false then ⟨false, 0⟩ else ⟨true, 1 - (l.getD 0 ⟨false, 0⟩).n⟩)
  else if op = 4 then logic (l.getD 0 ⟨false, 0⟩) (l.getD 1 ⟨false, 0⟩) 0
  else if op = 5 then logic (l.getD 0 ⟨false, 0⟩) (l.getD 1 ⟨false, 0⟩) 1
  else if op = 6 then
    (if (l.getD 0 ⟨false, 0⟩).known = true then l.getD (2 - (l.getD 0 ⟨false, 0⟩).n).toNat ⟨false, 0⟩
     else if (l.getD 1 ⟨false, 0⟩).known = true ∧ (l.getD 2 ⟨false, 0⟩).known = true ∧ (l.getD 1 ⟨false, 0⟩).n = (l.getD 2 ⟨false, 0⟩).n then l.getD 1 ⟨false, 0⟩ else ⟨false, 0⟩)
  else if (l.getD 0 ⟨false, 0⟩).known = false ∨ (l.getD 1 ⟨false, 0⟩).known = false then ⟨false, 0⟩
  else number op (l.getD 0 ⟨false, 0⟩).n (l.getD 1 ⟨false, 0⟩).n
mutual
def eval : Term → List Cell → Cell
  | .mk o n a, cells => if o = 0 ∨ o = 1 then ⟨true, n⟩ else if o = 2 then valueC n cells else evalN o (evalL a cells)
def evalL : List Term → List Cell → List Cell
  | [], _ => []
  | t :: l, cells => eval t cells :: evalL l cells
end
theorem evalL_map (cells : List Cell) : ∀ l, evalL l cells = l.map fun t => eval t cells
  | [] => rfl
  | t :: l => by simp [evalL, evalL_map cells l]
theorem eval_eq (t : Term) (cells : List Cell) : eval t cells = if t.op = 0 ∨ t.op = 1 then ⟨true, t.n⟩ else if t.op = 2 then valueC t.n cells else evalN t.op (t.args.map fun a => eval a cells) := by
  cases t; simp only [eval, evalL_map, Term.op, Term.n, Term.args]; rfl
def evalT (t : Term) (cells : List Cell) : Cell := if (checkT t).2 ≠ 0 then ⟨false, 0⟩ else eval t cells
end Go.Abs


namespace Go.Abs
theorem chkA_ok : ∀ (l : List Term) (ty : List Int), (chkA l ty).1 = 0 → (∀ a ∈ l, (chk a).2 = 0) ∧ (chkA l ty).2 = ty ++ l.map fun a => (chk a).1
  | [], ty, _ => by simp [chkA]
  | t :: l, ty, h => by
    simp only [chkA] at h ⊢
    split at h
    · rename_i hne; exact absurd h hne
    · rename_i he
      rw [if_neg he]
      obtain ⟨h1, h2⟩ := chkA_ok l _ h
      refine ⟨?_, by rw [h2]; simp⟩
      intro a ha
      rcases List.mem_cons.1 ha with rfl | ha
      · simpa using he
      · exact h1 a ha
theorem chk_ok {t : Term} (h : (chk t).2 = 0) : (∀ a ∈ t.args, (chk a).2 = 0) ∧ chk t = node t (t.args.map fun a => (chk a).1) := by
  rw [chk_eq] at h
  by_cases h0 : (chkA t.args []).1 = 0
  · obtain ⟨h1, h2⟩ := chkA_ok _ _ h0
    refine ⟨h1, ?_⟩
    rw [chk_eq, if_neg (by simp [h0]), h2]; simp
  · rw [if_pos h0] at h; exact absurd h h0
theorem leaf_ty (t : Term) : (leaf t).1 = 0 ∨ (leaf t).1 = 1 := by
  unfold leaf
  split
  · simp
  split
  · split <;> simp
  split
  · split <;> simp
  · cases h : varType t.n with
    | none => simp
    | some k => unfold varType at h; split at h <;> (try split at h) <;> simp_all
theorem shape_len {op : Int} (h : 3 ≤ op) : ((shapeArgs op).length : Int) = if op = 3 then 1 else if op = 6 then 3 else 2 := by
  unfold shapeArgs
  (repeat' split) <;> simp_all <;> omega
theorem node_ty {t : Term} {tys : List Int} (h : ∀ x ∈ tys, x = 0 ∨ x = 1) : (node t tys).1 = 0 ∨ (node t tys).1 = 1 := by
  unfold node
  split
  · simp
  split
  · exact leaf_ty t
  split
  · simp
  rename_i h1 h2 h3
  have hl : tys.length = (shapeArgs t.op).length := by
    by_cases hh : tys.length = (shapeArgs t.op).length
    · exact hh
    · exact absurd (Or.inl hh) h3
  split
  · simp
  · rename_i c hc
    split
    · rename_i hr
      have h6 : t.op = 6 := by
        unfold shapeRes at hr
        by_cases c6 : t.op = 6
        · exact c6
        · exfalso
          rw [if_neg c6] at hr
          (repeat' split at hr) <;> simp at hr
      rw [h6] at hl hc
      have h3 : tys.length = 3 := by rw [hl]; rfl
      match tys, h3 with
      | [a, b, d], _ =>
        have hb := h b (by simp)
        have ha := h a (by simp)
        have hd := h d (by simp)
        have e : shapeArgs 6 = [1, -1, -1] := rfl
        rw [e] at hc
        show c = 0 ∨ c = 1
        rcases ha with rfl | rfl <;> rcases hb with rfl | rfl <;> rcases hd with rfl | rfl <;> simp [fit] at hc <;> omega
    · rename_i hr
      show shapeRes t.op = 0 ∨ shapeRes t.op = 1
      unfold shapeRes at hr ⊢
      (repeat' split at hr) <;> (repeat' split) <;> first | omega | (exfalso; exact hr rfl)
theorem chk_ty : ∀ t : Term, (chk t).1 = 0 ∨ (chk t).1 = 1 := by
  refine Term.ind fun o n a ih => ?_
  rw [chk_eq]
  split
  · simp
  · rename_i h0
    have h0 : (chkA a []).1 = 0 := by simpa [Term.args] using h0
    obtain ⟨h1, h2⟩ := chkA_ok a [] h0
    show (node _ (chkA a []).2).1 = 0 ∨ (node _ (chkA a []).2).1 = 1
    rw [h2]
    refine node_ty ?_
    intro x hx
    simp at hx
    obtain ⟨b, hb, rfl⟩ := hx
    exact ih b hb
end Go.Abs


set_option maxRecDepth 100000
namespace Go.Abs
open Go.Proofs
theorem s45 (a b : Int) : Spec Try.prog 45 [.int .i64 a, .int .i64 b] (fun r => r = .bool (decide (a < b ∧ b < 22))) := by
  refine Spec.of_awl hf45 okf45 (by simp) ?_
  simp only [q_wpLs_eq_1, q_wpLs_eq_2, q_wpL_eq_1, q_putDL_eq_1, q_AOp_dst_eq_1, q_AOp_dst_eq_10, q_exL_eq_1, q_exL_eq_3, q_exL_eq_11, q_look_eq_1, q_look_eq_2, q_lookO_eq_1, q_insT_eq_1, q_awl_eq_2, q_awl_eq_5, q_awl_eq_10, q_AE_thenL_eq_1, q_initT_eq_1, q_initT_eq_2, q_putK_eq_1, q_vBin_eq_1, q_resV_eq_1, q_binV_eq_1, q_binInt_eq_3, q_cutInt_eq_8, q_cutInt_eq_10, q_vPick_eq_1, q_vPick_eq_3, q_mapT_eq_1, q_mapT_eq_2, q_mapO_eq_1, q_endK_eq_2, q_endL_eq_1, q_endV_eq_1, q_resL_eq_1, q_resL_eq_2, q_resX_eq_1, q_one_eq_1, q_V_nrm_eq_1, q_V_nrm_eq_5, q_K_nrm_eq_1, q_V_owns_eq_1, q_K_owns_eq_2, q_V_toNew_eq_1, q_K_toNew_eq_1, q_C_norm_eq_4, q_C_norm_eq_5, q_Bool_not_true, true_and, if_true, and_self, List.nodup_nil, Nat.reduceAdd, Nat.reduceBEq, Nat.zero_add, q_guardP_eq_1, q_condB_eq_1, q_condB_eq_2, q_exK_eq_1, condB_decide, lookT_here, lookT_next, uf45, uf45r1, uf45b2, uf45r3, uf45b4]
  refine ⟨fun h => ?_, fun h => ?_⟩
  · have : a < b := h
    simp [this]
  · have : ¬ a < b := h
    simp [this]
theorem s93 (a : Int) : Spec Try.prog 93 [.int .i64 a] (fun r => r = .int .i64 (cut a)) := by
  refine Spec.of_awl hf93 okf93 (by simp) ?_
  simp only [q_wpLs_eq_1, q_wpLs_eq_2, q_wpL_eq_1, q_exL_eq_1, q_exL_eq_34, q_look_eq_1, q_look_eq_2, q_lookO_eq_1, q_insT_eq_1, q_awl_eq_2, q_awl_eq_5, q_awl_eq_10, q_AE_thenL_eq_1, q_initT_eq_1, q_initT_eq_2, q_putK_eq_1, q_vInts_eq_1, q_vInts_eq_2, q_foldV_eq_1, q_vMinmax_eq_1, q_minmaxI_eq_1, q_mapT_eq_1, q_mapT_eq_2, q_mapO_eq_1, q_endK_eq_2, q_endL_eq_1, q_endV_eq_1, q_resL_eq_1, q_resL_eq_2, q_resX_eq_1, q_one_eq_1, q_V_nrm_eq_1, q_K_nrm_eq_1, q_V_owns_eq_1, q_K_owns_eq_2, q_V_toNew_eq_1, q_K_toNew_eq_1, q_C_norm_eq_4, q_Option_map_some, q_List_map_cons, q_List_map_nil, q_List_foldl_cons, q_List_foldl_nil, true_and, if_true, if_false, Bool.false_eq_true, and_self, Int.reduceNeg, List.nodup_nil, Nat.reduceBEq, Nat.zero_add, lookT_here, lookT_next, uf93, uf93r1, uf93b2, uf93r3, uf93b4]
  congr 3
  unfold cut
  split <;> split <;> omega
theorem s33 (a : Int) : Spec Try.prog 33 [.int .i64 a] (fun r => r = varTypeV a) := by
  refine Spec.of_awl hf33 okf33 (by simp) ?_
  simp only [q_wpLs_eq_1, q_wpLs_eq_2, q_wpL_eq_1, q_putDL_eq_1, q_AOp_dst_eq_1, q_AOp_dst_eq_10, q_exL_eq_1, q_exL_eq_3, q_exL_eq_11, q_look_eq_1, q_look_eq_2, q_lookO_eq_1, q_insT_eq_1, q_awl_eq_1, q_awl_eq_2, q_awl_eq_5, q_awl_eq_6, q_awl_eq_7, q_awl_eq_10, q_AE_thenL_eq_1, q_AE_thenL_eq_3, q_AE_inBlockL_eq_1, q_AE_inBlockL_eq_3, q_initT_eq_1, q_initT_eq_2, q_putK_eq_1, q_vBin_eq_1, q_resV_eq_1, q_binV_eq_1, q_binInt_eq_3, q_cutInt_eq_8, q_cutInt_eq_10, q_vPick_eq_1, q_vPick_eq_2, q_mapT_eq_1, q_mapT_eq_2, q_mapO_eq_1, q_endK_eq_2, q_endL_eq_1, q_endV_eq_1, q_resL_eq_1, q_resL_eq_2, q_resX_eq_1, q_one_eq_2, q_V_nrm_eq_1, q_V_nrm_eq_5, q_K_nrm_eq_1, q_V_owns_eq_1, q_V_owns_eq_3, q_K_owns_eq_2, q_V_ownsL_eq_1, q_V_ownsL_eq_2, q_V_toNew_eq_1, q_V_toNew_eq_4, q_K_toNew_eq_1, q_V_toNewL_eq_1, q_V_toNewL_eq_2, q_C_norm_eq_4, q_C_norm_eq_5, q_Bool_not_false, true_and, if_true, if_false, Bool.false_eq_true, and_self, List.append_nil, List.nodup_nil, Nat.reduceBEq, Nat.zero_add, q_learn_eq_1, q_guardP_eq_2, q_condK_eq_1, q_condB_eq_1, q_condB_eq_2, q_exK_eq_1, condB_decide, lookT_here, lookT_next, uf33, uf33r1, uf33b2, uf33r3, uf33b4, uf33r5, uf33b6, uf33b7, uf33r8, uf33b9, uf33b10, uf33r11, uf33b12, uf33b13, uf33b14, uf33r15, uf33b16]
  repeat' (first | with_reducible refine And.intro ?_ ?_ | with_reducible intro _)
  all_goals (simp only [varTypeV, varType]; (repeat' split) <;> simp_all <;> omega)
theorem s71 (t : Term) : Spec Try.prog 71 [.agg (encT t)] (fun r => r = pairV (leaf t)) := by
  refine Spec.of_awl hf71 okf71 (by simp) ?_
  simp only [encT_eq, lstC, map_len, q_wpLs_eq_1, q_wpLs_eq_2, q_wpLQs_eq_2, q_wpL_eq_1, q_wpLQ_eq_1, q_putDL_eq_1, q_AOp_dst_eq_8, q_AOp_dst_eq_10, q_AOp_dst_eq_20, q_exL_eq_1, q_exL_eq_3, q_exL_eq_5, q_exL_eq_8, q_exL_eq_11, q_exL_eq_21, q_exL_eq_28, q_exL_eq_30, q_exLQ_eq_9, q_exLQ_eq_22, q_exLQ_eq_29, q_look_eq_1, q_look_eq_2, q_insT_eq_1, q_insO_eq_1, q_awl_eq_1, q_awl_eq_2, q_awl_eq_3, q_awl_eq_5, q_awl_eq_6, q_awl_eq_7, q_awl_eq_10, q_AE_thenL_eq_1, q_AE_thenL_eq_3, q_AE_inBlockL_eq_1, q_AE_inBlockL_eq_3, q_initT_eq_1, q_initT_eq_2, q_putK_eq_1, q_vBin_eq_1, q_resV_eq_1, q_binV_eq_1, q_binInt_eq_3, q_cutInt_eq_6, q_cutInt_eq_8, q_cutInt_eq_10, q_vLen_eq_1, q_vFaddr_eq_1, q_loadO_eq_1, q_isV_eq_1, q_vLoad_eq_1, q_vPick_eq_1, q_vPick_eq_2, q_ofRow_eq_1, q_pureRow_eq_1, q_pureRow_eq_2, q_isVarO_eq_1, q_boxK_eq_1, q_mapT_eq_1, q_mapT_eq_2, q_mapO_eq_1, q_mapO_eq_2, q_freeB_eq_1, q_freeT_eq_1, q_freeT_eq_2, q_freeO_eq_1, q_V_noRef_eq_2, q_endK_eq_2, q_endL_eq_1, q_endV_eq_1, q_resL_eq_1, q_resL_eq_2, q_resX_eq_1, q_one_eq_2, q_V_nrm_eq_1, q_V_nrm_eq_2, q_V_nrm_eq_5, q_K_nrm_eq_1, q_K_nrm_eq_3, q_O_nrm_eq_1, q_V_owns_eq_1, q_V_owns_eq_3, q_K_owns_eq_2, q_V_ownsL_eq_1, q_V_ownsL_eq_2, q_V_toNew_eq_1, q_V_toNew_eq_4, q_K_toNew_eq_1, q_V_toNewL_eq_1, q_V_toNewL_eq_2, q_C_norm_eq_1, q_C_norm_eq_4, q_C_norm_eq_5, q_C_normRow_eq_1, q_C_normRow_eq_2, q_Bool_not_false, q_Option_map_some, q_List_map_cons, q_List_map_nil, q_List_take_succ_cons, q_List_take_zero, q_List_drop_succ_cons, q_List_drop_zero, q_List_length_cons, q_List_length_nil, true_and, if_true, if_false, Bool.false_eq_true, and_self, Bool.and_true, Bool.or_true, List.append_nil, List.nodup_nil, Nat.reduceAdd, Nat.reduceLeDiff, Nat.reduceBEq, Nat.zero_add, Nat.add_zero, Nat.le_refl, q_learn_eq_1, q_guardP_eq_2, q_condK_eq_1, q_condB_eq_1, q_condB_eq_2, q_exK_eq_1, condB_decide, condB_beq, normRows_T, List.length_map, lookT_here, lookT_next, lookO_here, uf71, uf71r9, uf71b10, uf71r16, uf71b17, uf71b18, uf71r19, uf71b20, uf71r21, uf71b22, uf71b23, uf71r24, uf71b25, uf71b26, uf71b27, uf71r28, uf71b29, uf71b30, uf71r31, uf71b32, uf71b33, uf71r34, uf71b35, uf71b36, uf71r37, uf71b38, uf71b39, uf71r40, uf71b41, uf71b42, uf71r43, uf71b44]
  repeat' (first | with_reducible refine And.intro ?_ ?_ | with_reducible intro _)
  all_goals first
    | (refine callQ_scalar (s93 t.n) rfl rfl rfl ?_
       simp only [q_wpLs_eq_1, q_wpLs_eq_2, q_wpLQs_eq_1, q_wpLQs_eq_2, q_wpL_eq_1, q_wpLQ_eq_1, q_exL_eq_1, q_exLQ_eq_9, q_exLQ_eq_12, q_exLQ_eq_22, q_look_eq_1, q_look_eq_2, q_insT_eq_1, q_awl_eq_1, q_awl_eq_2, q_awl_eq_5, q_awl_eq_6, q_awl_eq_10, q_AE_thenL_eq_1, q_AE_thenL_eq_3, q_AE_inBlockL_eq_3, q_putK_eq_1, q_vBin_eq_1, q_resV_eq_1, q_binV_eq_1, q_binInt_eq_3, q_cutInt_eq_7, q_vFaddr_eq_1, q_loadO_eq_1, q_isV_eq_1, q_vLoad_eq_1, q_ofRow_eq_1, q_pureRow_eq_1, q_pureRow_eq_2, q_isVarO_eq_1, q_mapT_eq_1, q_mapT_eq_2, q_mapO_eq_1, q_mapO_eq_2, q_endK_eq_2, q_endL_eq_1, q_endV_eq_1, q_resL_eq_1, q_resL_eq_2, q_resX_eq_1, q_one_eq_2, q_V_nrm_eq_1, q_V_nrm_eq_2, q_K_nrm_eq_1, q_K_nrm_eq_3, q_O_nrm_eq_1, q_V_owns_eq_1, q_V_owns_eq_3, q_K_owns_eq_2, q_V_ownsL_eq_1, q_V_ownsL_eq_2, q_V_toNew_eq_1, q_V_toNew_eq_4, q_K_toNew_eq_1, q_V_toNewL_eq_1, q_V_toNewL_eq_2, q_C_norm_eq_1, q_C_norm_eq_4, q_C_norm_eq_5, q_C_normRow_eq_1, q_C_normRow_eq_2, q_V_fz_eq_1, q_K_fz_eq_2, q_Option_map_some, q_List_map_cons, q_List_map_nil, q_List_take_succ_cons, q_List_take_zero, q_List_drop_succ_cons, q_List_drop_zero, q_List_length_cons, q_List_length_nil, true_and, if_true, if_false, Bool.false_eq_true, and_self, List.append_nil, List.nodup_nil, Nat.reduceAdd, Nat.reduceLeDiff, Nat.reduceBEq, Nat.zero_add, q_learn_eq_1, q_condK_eq_1, condB_bne, normRows_T, lookT_here, lookT_next, lookO_here, uf71r11, uf71b12, uf71r13, uf71b14, uf71b15]
       repeat' (first | with_reducible refine And.intro ?_ ?_ | with_reducible intro _)
       all_goals simp_all [leaf, pairV]
       done)
    | (refine call_scalar (s33 t.n) rfl rfl rfl ?_
       simp only [varTypeV, condB_iff, q_wpLs_eq_1, q_wpLs_eq_2, q_wpL_eq_1, q_exL_eq_1, q_exL_eq_15, q_exL_eq_27, q_look_eq_1, q_look_eq_2, q_insT_eq_1, q_awl_eq_1, q_awl_eq_2, q_awl_eq_5, q_awl_eq_6, q_awl_eq_10, q_AE_thenL_eq_1, q_AE_thenL_eq_3, q_putK_eq_1, q_vUn_eq_1, q_unV_eq_2, q_mapC_eq_1, q_vExtr_eq_1, q_mapT_eq_1, q_mapT_eq_2, q_mapO_eq_1, q_mapO_eq_2, q_endK_eq_2, q_endL_eq_1, q_endV_eq_1, q_resL_eq_1, q_resL_eq_2, q_resX_eq_1, q_one_eq_2, q_V_nrm_eq_1, q_V_nrm_eq_2, q_V_nrm_eq_4, q_K_nrm_eq_1, q_K_nrm_eq_3, q_V_nrmL_eq_1, q_V_nrmL_eq_2, q_O_nrm_eq_1, q_V_owns_eq_1, q_V_owns_eq_3, q_K_owns_eq_2, q_V_ownsL_eq_1, q_V_ownsL_eq_2, q_V_toNew_eq_1, q_V_toNew_eq_4, q_K_toNew_eq_1, q_V_toNewL_eq_1, q_V_toNewL_eq_2, q_C_norm_eq_1, q_C_norm_eq_4, q_C_norm_eq_5, q_C_normRow_eq_1, q_C_normRow_eq_2, q_List_map_cons, q_List_map_nil, q_List_getElemQ_cons_zero, q_List_getElemQ_cons_succ, true_and, and_self, Bool.not_eq_true', Bool.not_eq_false', List.append_nil, List.nodup_nil, Nat.reduceBEq, q_learn_eq_1, q_condK_eq_1, normRows_T, lookT_here, lookT_next, uf71r1, uf71b2, uf71r3, uf71b4, uf71b5, uf71r6, uf71b7, uf71b8]
       cases hv : varType t.n <;> simp_all [leaf, pairV]
       done)
    | (simp_all [leaf, pairV]; done)
    | (simp_all [leaf, pairV]; rw [if_neg (by omega)]; simp; done)
    | (simp_all [leaf, pairV]; rw [if_pos (by omega)]; simp; done)
end Go.Abs

