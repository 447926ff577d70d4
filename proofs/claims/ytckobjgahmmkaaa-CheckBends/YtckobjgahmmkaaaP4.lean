/- CheckBends -/
import Derived.Test.YtckobjgahmmkaaaP3
import Derived.Test.YtckobjgahmmkaaaProg
import Derived.IntWalk
set_option maxRecDepth 100000
namespace Go.Abs
open Go.Proofs
def f14r1 : List AI := [⟨none, (.mov 126 (.t 13))⟩, ⟨none, (.mov 127 (.t 126))⟩, ⟨(some (127, true)), (.mov 128 (.t 14))⟩, ⟨none, (.pick 129 (.t 127) (.t 128) (.v (.k (.c (.bool false)))))⟩, ⟨none, (.mov 130 (.t 129))⟩, ⟨(some (130, true)), (.mov 131 (.t 15))⟩, ⟨none, (.pick 132 (.t 130) (.t 131) (.v (.k (.c (.bool false)))))⟩, ⟨none, (.mov 0 (.t 132))⟩]
theorem uf14r1 : type_of% @f14r1.eq_1 := id @f14r1.eq_1
def f14b2 : AQ := (.seq (.region f14r1) .ret)
theorem uf14b2 (P ts os Q) : awl P f14b2 Q ts os = awl P (.seq (.region f14r1) .ret) Q ts os := id rfl
def f14r3 : List AI := [⟨none, (.load 104 4 true (.t 4))⟩, ⟨none, (.call (some 105) 23 [(.t 104)])⟩, ⟨none, (.len 106 (.t 105))⟩, ⟨none, (.bin 107 .eql (.t 106) (.v (.k (.c (.int .i64 20)))))⟩, ⟨none, (.mov 108 (.t 107))⟩, ⟨(some (108, true)), (.load 109 4 true (.t 5))⟩, ⟨(some (108, true)), (.call (some 110) 23 [(.t 109)])⟩, ⟨(some (108, true)), (.len 111 (.t 110))⟩, ⟨(some (108, true)), (.bin 112 .eql (.t 111) (.v (.k (.c (.int .i64 21)))))⟩, ⟨none, (.pick 113 (.t 108) (.t 112) (.v (.k (.c (.bool false)))))⟩, ⟨none, (.mov 114 (.t 113))⟩, ⟨(some (114, true)), (.load 115 4 true (.t 4))⟩, ⟨(some (114, true)), (.call (some 116) 27 [(.t 115)])⟩, ⟨(some (114, true)), (.len 117 (.t 116))⟩, ⟨(some (114, true)), (.bin 118 .eql (.t 117) (.v (.k (.c (.int .i64 0)))))⟩, ⟨none, (.pick 119 (.t 114) (.t 118) (.v (.k (.c (.bool false)))))⟩, ⟨none, (.mov 120 (.t 119))⟩, ⟨(some (120, true)), (.load 121 4 true (.t 5))⟩, ⟨(some (120, true)), (.call (some 122) 27 [(.t 121)])⟩, ⟨(some (120, true)), (.bslice 123 3 1 [(.int .i64 0)] 1 [(0, (.v (.k (.c (.int .i64 0)))))])⟩, ⟨(some (120, true)), (.call (some 124) 22 [(.t 122), (.t 123)])⟩, ⟨none, (.pick 125 (.t 120) (.t 124) (.v (.k (.c (.bool false)))))⟩, ⟨none, (.mov 15 (.t 125))⟩]
theorem uf14r3 : type_of% @f14r3.eq_1 := id @f14r3.eq_1
def f14b4 : AQ := (.seq (.region f14r3) f14b2)
theorem uf14b4 (P ts os Q) : awl P f14b4 Q ts os = awl P (.seq (.region f14r3) f14b2) Q ts os := id rfl
def f14r5 : List AI := [⟨none, (.load 88 4 true (.t 4))⟩, ⟨none, (.call (some 89) 25 [(.t 88)])⟩, ⟨none, (.bslice 90 3 1 [(.int .i64 0)] 1 [(0, (.v (.k (.c (.int .i64 7)))))])⟩, ⟨none, (.call (some 91) 22 [(.t 89), (.t 90)])⟩, ⟨none, (.mov 92 (.t 91))⟩, ⟨(some (92, true)), (.load 93 4 true (.t 5))⟩, ⟨(some (92, true)), (.call (some 94) 25 [(.t 93)])⟩, ⟨(some (92, true)), (.bslice 95 3 1 [(.int .i64 0)] 1 [(0, (.v (.k (.c (.int .i64 15)))))])⟩, ⟨(some (92, true)), (.call (some 96) 22 [(.t 94), (.t 95)])⟩, ⟨none, (.pick 97 (.t 92) (.t 96) (.v (.k (.c (.bool false)))))⟩, ⟨none, (.mov 98 (.t 97))⟩, ⟨(some (98, true)), (.load 99 4 true (.t 6))⟩, ⟨(some (98, true)), (.call (some 100) 25 [(.t 99)])⟩, ⟨(some (98, true)), (.len 101 (.t 100))⟩, ⟨(some (98, true)), (.bin 102 .eql (.t 101) (.v (.k (.c (.int .i64 0)))))⟩, ⟨none, (.pick 103 (.t 98) (.t 102) (.v (.k (.c (.bool false)))))⟩, ⟨none, (.mov 14 (.t 103))⟩]
theorem uf14r5 : type_of% @f14r5.eq_1 := id @f14r5.eq_1
def f14b6 : AQ := (.seq (.region f14r5) f14b4)
theorem uf14b6 (P ts os Q) : awl P f14b6 Q ts os = awl P (.seq (.region f14r5) f14b4) Q ts os := id rfl
def f14r7 : List AI := [⟨none, (.load 52 4 true (.t 4))⟩, ⟨none, (.call (some 53) 20 [(.t 52)])⟩, ⟨none, (.bin 54 .eql (.t 53) (.v (.k (.c (.int .i64 0)))))⟩, ⟨none, (.mov 55 (.t 54))⟩, ⟨(some (55, true)), (.load 56 4 true (.t 5))⟩, ⟨(some (55, true)), (.call (some 57) 20 [(.t 56)])⟩, ⟨(some (55, true)), (.bin 58 .eql (.t 57) (.v (.k (.c (.int .i64 0)))))⟩, ⟨none, (.pick 59 (.t 55) (.t 58) (.v (.k (.c (.bool false)))))⟩, ⟨none, (.mov 60 (.t 59))⟩, ⟨(some (60, true)), (.load 61 4 true (.t 6))⟩, ⟨(some (60, true)), (.call (some 62) 20 [(.t 61)])⟩, ⟨(some (60, true)), (.bin 63 .eql (.t 62) (.v (.k (.c (.int .i64 11)))))⟩, ⟨none, (.pick 64 (.t 60) (.t 63) (.v (.k (.c (.bool false)))))⟩, ⟨none, (.mov 65 (.t 64))⟩, ⟨(some (65, true)), (.mov 66 (.t 7))⟩, ⟨(some (65, true)), (.bin 67 .eql (.t 66) (.v (.k (.c (.int .i64 1)))))⟩, ⟨none, (.pick 68 (.t 65) (.t 67) (.v (.k (.c (.bool false)))))⟩, ⟨none, (.mov 69 (.t 68))⟩, ⟨(some (69, true)), (.mov 70 (.t 8))⟩, ⟨(some (69, true)), (.bin 71 .eql (.t 70) (.v (.k (.c (.int .i64 11)))))⟩, ⟨none, (.pick 72 (.t 69) (.t 71) (.v (.k (.c (.bool false)))))⟩, ⟨none, (.mov 73 (.t 72))⟩, ⟨(some (73, true)), (.mov 74 (.t 9))⟩, ⟨(some (73, true)), (.bin 75 .eql (.t 74) (.v (.k (.c (.int .i64 (-1))))))⟩, ⟨none, (.pick 76 (.t 73) (.t 75) (.v (.k (.c (.bool false)))))⟩, ⟨none, (.mov 77 (.t 76))⟩, ⟨(some (77, true)), (.mov 78 (.t 10))⟩, ⟨(some (77, true)), (.bin 79 .eql (.t 78) (.v (.k (.c (.int .i64 0)))))⟩, ⟨none, (.pick 80 (.t 77) (.t 79) (.v (.k (.c (.bool false)))))⟩, ⟨none, (.mov 81 (.t 80))⟩, ⟨(some (81, true)), (.mov 82 (.t 11))⟩, ⟨(some (81, true)), (.bin 83 .eql (.t 82) (.v (.k (.c (.int .i64 0)))))⟩, ⟨none, (.pick 84 (.t 81) (.t 83) (.v (.k (.c (.bool false)))))⟩, ⟨none, (.mov 85 (.t 84))⟩, ⟨(some (85, true)), (.mov 86 (.t 12))⟩, ⟨none, (.pick 87 (.t 85) (.t 86) (.v (.k (.c (.bool false)))))⟩, ⟨none, (.mov 13 (.t 87))⟩]
theorem uf14r7 : type_of% @f14r7.eq_1 := id @f14r7.eq_1
def f14b8 : AQ := (.seq (.region f14r7) f14b6)
theorem uf14b8 (P ts os Q) : awl P f14b8 Q ts os = awl P (.seq (.region f14r7) f14b6) Q ts os := id rfl
def f14r9 : List AI := [⟨none, (.call (some 49) 16 [(.v (.k (.c (.int .i64 6))))])⟩, ⟨none, (.mov 48 (.t 49))⟩, ⟨none, (.extr 50 (.t 48) 0)⟩, ⟨none, (.extr 51 (.t 48) 1)⟩, ⟨none, (.mov 11 (.t 50))⟩, ⟨none, (.mov 12 (.t 51))⟩]
theorem uf14r9 : type_of% @f14r9.eq_1 := id @f14r9.eq_1
def f14b10 : AQ := (.seq (.region f14r9) f14b8)
theorem uf14b10 (P ts os Q) : awl P f14b10 Q ts os = awl P (.seq (.region f14r9) f14b8) Q ts os := id rfl
def f14r11 : List AI := [⟨none, (.load 42 4 true (.t 4))⟩, ⟨none, (.load 43 4 true (.t 5))⟩, ⟨none, (.bslice 44 25 4 [(.str []), (.bool false), (.list 0 (some true) []), (.list 0 (some true) [])] 2 [(0, (.t 42)), (1, (.t 43))])⟩, ⟨none, (.call (some 45) 18 [(.t 44)])⟩, ⟨none, (.mov 41 (.t 45))⟩, ⟨none, (.extr 46 (.t 41) 0)⟩, ⟨none, (.extr 47 (.t 41) 1)⟩, ⟨none, (.mov 9 (.t 46))⟩, ⟨none, (.mov 10 (.t 47))⟩]
theorem uf14r11 : type_of% @f14r11.eq_1 := id @f14r11.eq_1
def f14b12 : AQ := (.seq (.region f14r11) f14b10)
theorem uf14b12 (P ts os Q) : awl P f14b12 Q ts os = awl P (.seq (.region f14r11) f14b10) Q ts os := id rfl
def f14r13 : List AI := [⟨none, (.load 34 4 true (.t 4))⟩, ⟨none, (.load 35 4 true (.t 6))⟩, ⟨none, (.load 36 4 true (.t 5))⟩, ⟨none, (.bslice 37 25 4 [(.str []), (.bool false), (.list 0 (some true) []), (.list 0 (some true) [])] 3 [(0, (.t 34)), (1, (.t 35)), (2, (.t 36))])⟩, ⟨none, (.call (some 38) 18 [(.t 37)])⟩, ⟨none, (.mov 33 (.t 38))⟩, ⟨none, (.extr 39 (.t 33) 0)⟩, ⟨none, (.extr 40 (.t 33) 1)⟩, ⟨none, (.mov 7 (.t 39))⟩, ⟨none, (.mov 8 (.t 40))⟩]
theorem uf14r13 : type_of% @f14r13.eq_1 := id @f14r13.eq_1
def f14b14 : AQ := (.seq (.region f14r13) f14b12)
theorem uf14b14 (P ts os Q) : awl P f14b14 Q ts os = awl P (.seq (.region f14r13) f14b12) Q ts os := id rfl
def f14r15 : List AI := [⟨none, (.load 29 3 true (.t 3))⟩, ⟨none, (.build 30 [(.int .i64 0), (.int .i64 0), (.int .i64 0), (.list 0 (some true) [])] [(0, (1, (.v (.k (.c (.int .i64 0)))))), (1, (3, (.t 29)))])⟩, ⟨none, (.bslice 31 43 4 [(.int .i64 0), (.int .i64 0), (.int .i64 0), (.list 0 (some true) [])] 1 [(0, (.t 30))])⟩, ⟨none, (.build 32 [(.str []), (.bool false), (.list 0 (some true) []), (.list 0 (some true) [])] [(3, (1, (.t 31)))])⟩, ⟨none, (.alloc 6 25 [(.str []), (.bool false), (.list 0 (some true) []), (.list 0 (some true) [])])⟩, ⟨none, (.store 4 (.t 6) (.t 32))⟩]
theorem uf14r15 : type_of% @f14r15.eq_1 := id @f14r15.eq_1
def f14b16 : AQ := (.seq (.region f14r15) (.frz 31 f14b14))
theorem uf14b16 (P ts os Q) : awl P f14b16 Q ts os = awl P (.seq (.region f14r15) (.frz 31 f14b14)) Q ts os := id rfl
def f14r17 : List AI := [⟨none, (.load 25 3 true (.t 2))⟩, ⟨none, (.build 26 [(.int .i64 0), (.int .i64 0), (.int .i64 0), (.list 0 (some true) [])] [(0, (1, (.v (.k (.c (.int .i64 0)))))), (1, (3, (.t 25)))])⟩, ⟨none, (.bslice 27 43 4 [(.int .i64 0), (.int .i64 0), (.int .i64 0), (.list 0 (some true) [])] 1 [(0, (.t 26))])⟩, ⟨none, (.build 28 [(.str []), (.bool false), (.list 0 (some true) []), (.list 0 (some true) [])] [(3, (1, (.t 27)))])⟩, ⟨none, (.alloc 5 25 [(.str []), (.bool false), (.list 0 (some true) []), (.list 0 (some true) [])])⟩, ⟨none, (.store 4 (.t 5) (.t 28))⟩]
theorem uf14r17 : type_of% @f14r17.eq_1 := id @f14r17.eq_1
def f14b18 : AQ := (.seq (.region f14r17) (.frz 27 f14b16))
theorem uf14b18 (P ts os Q) : awl P f14b18 Q ts os = awl P (.seq (.region f14r17) (.frz 27 f14b16)) Q ts os := id rfl
def f14r19 : List AI := [⟨none, (.load 19 3 true (.t 1))⟩, ⟨none, (.build 20 [(.int .i64 0), (.int .i64 0), (.int .i64 0), (.list 0 (some true) [])] [(0, (1, (.v (.k (.c (.int .i64 0)))))), (1, (3, (.t 19)))])⟩, ⟨none, (.load 21 3 true (.t 3))⟩, ⟨none, (.build 22 [(.int .i64 0), (.int .i64 0), (.int .i64 0), (.list 0 (some true) [])] [(0, (1, (.v (.k (.c (.int .i64 6)))))), (1, (3, (.t 21)))])⟩, ⟨none, (.bslice 23 43 4 [(.int .i64 0), (.int .i64 0), (.int .i64 0), (.list 0 (some true) [])] 2 [(0, (.t 20)), (1, (.t 22))])⟩, ⟨none, (.build 24 [(.str []), (.bool false), (.list 0 (some true) []), (.list 0 (some true) [])] [(3, (1, (.t 23)))])⟩, ⟨none, (.alloc 4 25 [(.str []), (.bool false), (.list 0 (some true) []), (.list 0 (some true) [])])⟩, ⟨none, (.store 4 (.t 4) (.t 24))⟩]
theorem uf14r19 : type_of% @f14r19.eq_1 := id @f14r19.eq_1
def f14b20 : AQ := (.seq (.region f14r19) (.frz 23 f14b18))
theorem uf14b20 (P ts os Q) : awl P f14b20 Q ts os = awl P (.seq (.region f14r19) (.frz 23 f14b18)) Q ts os := id rfl
def f14r21 : List AI := [⟨none, (.build 18 [(.int .i64 0), (.int .i64 0), (.list 0 (some true) [])] [(0, (1, (.v (.k (.c (.int .i64 0)))))), (1, (1, (.v (.k (.c (.int .i64 3))))))])⟩, ⟨none, (.alloc 3 41 [(.int .i64 0), (.int .i64 0), (.list 0 (some true) [])])⟩, ⟨none, (.store 3 (.t 3) (.t 18))⟩]
theorem uf14r21 : type_of% @f14r21.eq_1 := id @f14r21.eq_1
def f14b22 : AQ := (.seq (.region f14r21) f14b20)
theorem uf14b22 (P ts os Q) : awl P f14b22 Q ts os = awl P (.seq (.region f14r21) f14b20) Q ts os := id rfl
def f14r23 : List AI := [⟨none, (.build 17 [(.int .i64 0), (.int .i64 0), (.list 0 (some true) [])] [(0, (1, (.v (.k (.c (.int .i64 2)))))), (1, (1, (.v (.k (.c (.int .i64 15))))))])⟩, ⟨none, (.alloc 2 41 [(.int .i64 0), (.int .i64 0), (.list 0 (some true) [])])⟩, ⟨none, (.store 3 (.t 2) (.t 17))⟩]
theorem uf14r23 : type_of% @f14r23.eq_1 := id @f14r23.eq_1
def f14b24 : AQ := (.seq (.region f14r23) f14b22)
theorem uf14b24 (P ts os Q) : awl P f14b24 Q ts os = awl P (.seq (.region f14r23) f14b22) Q ts os := id rfl
def f14r25 : List AI := [⟨none, (.build 16 [(.int .i64 0), (.int .i64 0), (.list 0 (some true) [])] [(0, (1, (.v (.k (.c (.int .i64 2)))))), (1, (1, (.v (.k (.c (.int .i64 7))))))])⟩, ⟨none, (.alloc 1 41 [(.int .i64 0), (.int .i64 0), (.list 0 (some true) [])])⟩, ⟨none, (.store 3 (.t 1) (.t 16))⟩]
theorem uf14r25 : type_of% @f14r25.eq_1 := id @f14r25.eq_1
def f14b26 : AQ := (.seq (.region f14r25) f14b24)
theorem uf14b26 (P ts os Q) : awl P f14b26 Q ts os = awl P (.seq (.region f14r25) f14b24) Q ts os := id rfl
def f14r27 : List AI := [⟨none, (.mov 0 (.v (.k (.c (.bool false)))))⟩]
theorem uf14r27 : type_of% @f14r27.eq_1 := id @f14r27.eq_1
def f14b28 : AQ := (.seq (.region f14r27) f14b26)
theorem uf14b28 (P ts os Q) : awl P f14b28 Q ts os = awl P (.seq (.region f14r27) f14b26) Q ts os := id rfl
def f14 : AQ := f14b28
theorem uf14 (P ts os Q) : awl P f14 Q ts os = awl P f14b28 Q ts os := id rfl
theorem hf14 : cFunc Try.prog 14 = some ⟨133, f14.erase, [(RX.t 0)]⟩ := by kernel_rfl
theorem okf14 : f14.ok = true := by kernel_rfl
def f15r1 : List AI := [⟨none, (.mov 2 (.v (.k (.c (.bool true)))))⟩]
theorem uf15r1 : type_of% @f15r1.eq_1 := id @f15r1.eq_1
def f15b2 : AQ := (.seq (.region f15r1) .ret)
theorem uf15b2 (P ts os Q) : awl P f15b2 Q ts os = awl P (.seq (.region f15r1) .ret) Q ts os := id rfl
def f15r3 : List AI := [⟨none, (.mov 19 (.t 3))⟩, ⟨none, (.bin 20 .add (.t 19) (.v (.k (.c (.int .i64 1)))))⟩, ⟨none, (.mov 3 (.t 20))⟩]
theorem uf15r3 : type_of% @f15r3.eq_1 := id @f15r3.eq_1
def f15r4 : List AI := [⟨none, (.mov 2 (.v (.k (.c (.bool false)))))⟩]
theorem uf15r4 : type_of% @f15r4.eq_1 := id @f15r4.eq_1
def f15b5 : AQ := (.seq (.region f15r4) .ret)
theorem uf15b5 (P ts os Q) : awl P f15b5 Q ts os = awl P (.seq (.region f15r4) .ret) Q ts os := id rfl
def f15b6 : AQ := (.cond (.t 28) f15b5 .skip)
theorem uf15b6 (P ts os Q) : awl P f15b6 Q ts os = awl P (.cond (.t 28) f15b5 .skip) Q ts os := id rfl
def f15r7 : List AI := [⟨none, (.faddr 21 3 (.t 1))⟩, ⟨none, (.load 22 1 false (.t 21))⟩, ⟨none, (.mov 23 (.t 3))⟩, ⟨none, (.iaddr 24 4 (.t 22) (.t 23))⟩, ⟨none, (.faddr 25 1 (.t 24))⟩, ⟨none, (.load 26 3 true (.t 25))⟩, ⟨none, (.call (some 27) 30 [(.t 26)])⟩, ⟨none, (.un 28 .not (.t 27))⟩]
theorem uf15r7 : type_of% @f15r7.eq_1 := id @f15r7.eq_1
def f15b8 : AQ := (.seq (.region f15r7) f15b6)
theorem uf15b8 (P ts os Q) : awl P f15b8 Q ts os = awl P (.seq (.region f15r7) f15b6) Q ts os := id rfl
def f15b9 : AQ := (.block 1 f15b8)
theorem uf15b9 (P ts os Q) : awl P f15b9 Q ts os = awl P (.block 1 f15b8) Q ts os := id rfl
def f15b10 : AQ := (.seq f15b9 (.region f15r3))
theorem uf15b10 (P ts os Q) : awl P f15b10 Q ts os = awl P (.seq f15b9 (.region f15r3)) Q ts os := id rfl
def f15b11 : AQ := (.cond (.t 18) .skip (.exit 0))
theorem uf15b11 (P ts os Q) : awl P f15b11 Q ts os = awl P (.cond (.t 18) .skip (.exit 0)) Q ts os := id rfl
def f15r12 : List AI := [⟨none, (.mov 14 (.t 3))⟩, ⟨none, (.faddr 15 3 (.t 1))⟩, ⟨none, (.load 16 1 false (.t 15))⟩, ⟨none, (.len 17 (.t 16))⟩, ⟨none, (.bin 18 .lss (.t 14) (.t 17))⟩]
theorem uf15r12 : type_of% @f15r12.eq_1 := id @f15r12.eq_1
def f15b13 : AQ := (.seq (.region f15r12) f15b11)
theorem uf15b13 (P ts os Q) : awl P f15b13 Q ts os = awl P (.seq (.region f15r12) f15b11) Q ts os := id rfl
def f15b14 : AQ := (.seq f15b13 f15b10)
theorem uf15b14 (P ts os Q) : awl P f15b14 Q ts os = awl P (.seq f15b13 f15b10) Q ts os := id rfl
def f15l15 : AQ := .loop [1, 3] [1] f15b14
theorem uf15l15 (P ts os Q) : awl P f15l15 Q ts os = awl P (.loop [1, 3] [1] f15b14) Q ts os := id rfl
def f15b16 : AQ := (.block 0 f15l15)
theorem uf15b16 (P ts os Q) : awl P f15b16 Q ts os = awl P (.block 0 f15l15) Q ts os := id rfl
def f15r17 : List AI := [⟨none, (.mov 3 (.v (.k (.c (.int .i64 0)))))⟩]
theorem uf15r17 : type_of% @f15r17.eq_1 := id @f15r17.eq_1
def f15b18 : AQ := (.seq (.region f15r17) f15b16)
theorem uf15b18 (P ts os Q) : awl P f15b18 Q ts os = awl P (.seq (.region f15r17) f15b16) Q ts os := id rfl
def f15b19 : AQ := (.seq f15b18 f15b2)
theorem uf15b19 (P ts os Q) : awl P f15b19 Q ts os = awl P (.seq f15b18 f15b2) Q ts os := id rfl
def f15r20 : List AI := [⟨none, (.mov 2 (.v (.k (.c (.bool false)))))⟩]
theorem uf15r20 : type_of% @f15r20.eq_1 := id @f15r20.eq_1
def f15b21 : AQ := (.seq (.region f15r20) .ret)
theorem uf15b21 (P ts os Q) : awl P f15b21 Q ts os = awl P (.seq (.region f15r20) .ret) Q ts os := id rfl
def f15b22 : AQ := (.cond (.t 13) f15b21 .skip)
theorem uf15b22 (P ts os Q) : awl P f15b22 Q ts os = awl P (.cond (.t 13) f15b21 .skip) Q ts os := id rfl
def f15r23 : List AI := [⟨none, (.faddr 4 2 (.t 1))⟩, ⟨none, (.load 5 1 false (.t 4))⟩, ⟨none, (.len 6 (.t 5))⟩, ⟨none, (.bin 7 .gtr (.t 6) (.v (.k (.c (.int .i64 60)))))⟩, ⟨none, (.mov 8 (.t 7))⟩, ⟨(some (8, false)), (.faddr 9 3 (.t 1))⟩, ⟨(some (8, false)), (.load 10 1 false (.t 9))⟩, ⟨(some (8, false)), (.len 11 (.t 10))⟩, ⟨(some (8, false)), (.bin 12 .gtr (.t 11) (.v (.k (.c (.int .i64 60)))))⟩, ⟨none, (.pick 13 (.t 8) (.v (.k (.c (.bool true)))) (.t 12))⟩]
theorem uf15r23 : type_of% @f15r23.eq_1 := id @f15r23.eq_1
def f15b24 : AQ := (.seq (.region f15r23) f15b22)
theorem uf15b24 (P ts os Q) : awl P f15b24 Q ts os = awl P (.seq (.region f15r23) f15b22) Q ts os := id rfl
def f15b25 : AQ := (.seq f15b24 f15b19)
theorem uf15b25 (P ts os Q) : awl P f15b25 Q ts os = awl P (.seq f15b24 f15b19) Q ts os := id rfl
def f15r26 : List AI := [⟨none, (.box 1 25 (.t 0))⟩, ⟨none, (.mov 2 (.v (.k (.c (.bool false)))))⟩]
theorem uf15r26 : type_of% @f15r26.eq_1 := id @f15r26.eq_1
def f15b27 : AQ := (.seq (.region f15r26) f15b25)
theorem uf15b27 (P ts os Q) : awl P f15b27 Q ts os = awl P (.seq (.region f15r26) f15b25) Q ts os := id rfl
def f15 : AQ := f15b27
theorem uf15 (P ts os Q) : awl P f15 Q ts os = awl P f15b27 Q ts os := id rfl
theorem hf15 : cFunc Try.prog 15 = some ⟨29, f15.erase, [(RX.t 2)]⟩ := by kernel_rfl
theorem okf15 : f15.ok = true := by kernel_rfl
def f16r1 : List AI := [⟨none, (.call (some 10) 44 [])⟩, ⟨none, (.mov 11 (.t 0))⟩, ⟨none, (.aidx 12 1 22 false (.t 10) (.t 11))⟩, ⟨none, (.mov 2 (.t 12))⟩, ⟨none, (.mov 3 (.v (.k (.c (.bool true)))))⟩]
theorem uf16r1 : type_of% @f16r1.eq_1 := id @f16r1.eq_1
def f16b2 : AQ := (.seq (.region f16r1) .ret)
theorem uf16b2 (P ts os Q) : awl P f16b2 Q ts os = awl P (.seq (.region f16r1) .ret) Q ts os := id rfl
def f16r3 : List AI := [⟨none, (.mov 2 (.v (.k (.c (.int .i64 0)))))⟩, ⟨none, (.mov 3 (.v (.k (.c (.bool false)))))⟩]
theorem uf16r3 : type_of% @f16r3.eq_1 := id @f16r3.eq_1
def f16b4 : AQ := (.seq (.region f16r3) .ret)
theorem uf16b4 (P ts os Q) : awl P f16b4 Q ts os = awl P (.seq (.region f16r3) .ret) Q ts os := id rfl
def f16b5 : AQ := (.cond (.t 9) f16b4 .skip)
theorem uf16b5 (P ts os Q) : awl P f16b5 Q ts os = awl P (.cond (.t 9) f16b4 .skip) Q ts os := id rfl
def f16r6 : List AI := [⟨none, (.mov 4 (.t 0))⟩, ⟨none, (.bin 5 .lss (.t 4) (.v (.k (.c (.int .i64 0)))))⟩, ⟨none, (.mov 6 (.t 5))⟩, ⟨(some (6, false)), (.mov 7 (.t 0))⟩, ⟨(some (6, false)), (.bin 8 .geq (.t 7) (.v (.k (.c (.int .i64 22)))))⟩, ⟨none, (.pick 9 (.t 6) (.v (.k (.c (.bool true)))) (.t 8))⟩]
theorem uf16r6 : type_of% @f16r6.eq_1 := id @f16r6.eq_1
def f16b7 : AQ := (.seq (.region f16r6) f16b5)
theorem uf16b7 (P ts os Q) : awl P f16b7 Q ts os = awl P (.seq (.region f16r6) f16b5) Q ts os := id rfl
def f16b8 : AQ := (.seq f16b7 f16b2)
theorem uf16b8 (P ts os Q) : awl P f16b8 Q ts os = awl P (.seq f16b7 f16b2) Q ts os := id rfl
def f16r9 : List AI := [⟨none, (.mov 2 (.v (.k (.c (.int .i64 0)))))⟩, ⟨none, (.mov 3 (.v (.k (.c (.bool false)))))⟩]
theorem uf16r9 : type_of% @f16r9.eq_1 := id @f16r9.eq_1
def f16b10 : AQ := (.seq (.region f16r9) f16b8)
theorem uf16b10 (P ts os Q) : awl P f16b10 Q ts os = awl P (.seq (.region f16r9) f16b8) Q ts os := id rfl
def f16 : AQ := f16b10
theorem uf16 (P ts os Q) : awl P f16 Q ts os = awl P f16b10 Q ts os := id rfl
theorem hf16 : cFunc Try.prog 16 = some ⟨13, f16.erase, [(RX.t 2), (RX.t 3)]⟩ := by kernel_rfl
theorem okf16 : f16.ok = true := by kernel_rfl
def f18r1 : List AI := [⟨none, (.mov 2 (.v (.k (.c (.int .i64 (-1))))))⟩, ⟨none, (.mov 3 (.v (.k (.c (.int .i64 0)))))⟩]
theorem uf18r1 : type_of% @f18r1.eq_1 := id @f18r1.eq_1
def f18b2 : AQ := (.seq (.region f18r1) .ret)
theorem uf18b2 (P ts os Q) : awl P f18b2 Q ts os = awl P (.seq (.region f18r1) .ret) Q ts os := id rfl
def f18r3 : List AI := [⟨none, (.bin 20 .add (.t 9) (.v (.k (.c (.int .i64 1)))))⟩, ⟨none, (.mov 9 (.t 20))⟩]
theorem uf18r3 : type_of% @f18r3.eq_1 := id @f18r3.eq_1
def f18r4 : List AI := [⟨none, (.mov 18 (.t 4))⟩, ⟨none, (.mov 19 (.t 6))⟩, ⟨none, (.mov 2 (.t 18))⟩, ⟨none, (.mov 3 (.t 19))⟩]
theorem uf18r4 : type_of% @f18r4.eq_1 := id @f18r4.eq_1
def f18b5 : AQ := (.seq (.region f18r4) .ret)
theorem uf18b5 (P ts os Q) : awl P f18b5 Q ts os = awl P (.seq (.region f18r4) .ret) Q ts os := id rfl
def f18b6 : AQ := (.cond (.t 17) f18b5 .skip)
theorem uf18b6 (P ts os Q) : awl P f18b6 Q ts os = awl P (.cond (.t 17) f18b5 .skip) Q ts os := id rfl
def f18r7 : List AI := [⟨none, (.mov 16 (.t 6))⟩, ⟨none, (.bin 17 .neq (.t 16) (.v (.k (.c (.int .i64 0)))))⟩]
theorem uf18r7 : type_of% @f18r7.eq_1 := id @f18r7.eq_1
def f18b8 : AQ := (.seq (.region f18r7) f18b6)
theorem uf18b8 (P ts os Q) : awl P f18b8 Q ts os = awl P (.seq (.region f18r7) f18b6) Q ts os := id rfl
def f18r9 : List AI := [⟨none, (.load 14 4 true (.t 5))⟩, ⟨none, (.call (some 15) 20 [(.t 14)])⟩, ⟨none, (.mov 6 (.t 15))⟩]
theorem uf18r9 : type_of% @f18r9.eq_1 := id @f18r9.eq_1
def f18b10 : AQ := (.seq (.region f18r9) f18b8)
theorem uf18b10 (P ts os Q) : awl P f18b10 Q ts os = awl P (.seq (.region f18r9) f18b8) Q ts os := id rfl
def f18r11 : List AI := [⟨none, (.mov 11 (.t 9))⟩, ⟨none, (.iaddr 12 4 (.t 7) (.t 9))⟩, ⟨none, (.load 13 4 true (.t 12))⟩, ⟨none, (.alloc 5 25 [(.str []), (.bool false), (.list 0 (some true) []), (.list 0 (some true) [])])⟩, ⟨none, (.mov 4 (.t 11))⟩, ⟨none, (.store 4 (.t 5) (.t 13))⟩]
theorem uf18r11 : type_of% @f18r11.eq_1 := id @f18r11.eq_1
def f18b12 : AQ := (.seq (.region f18r11) f18b10)
theorem uf18b12 (P ts os Q) : awl P f18b12 Q ts os = awl P (.seq (.region f18r11) f18b10) Q ts os := id rfl
def f18b13 : AQ := (.block 1 f18b12)
theorem uf18b13 (P ts os Q) : awl P f18b13 Q ts os = awl P (.block 1 f18b12) Q ts os := id rfl
def f18b14 : AQ := (.seq f18b13 (.region f18r3))
theorem uf18b14 (P ts os Q) : awl P f18b14 Q ts os = awl P (.seq f18b13 (.region f18r3)) Q ts os := id rfl
def f18b15 : AQ := (.cond (.t 10) .skip (.exit 0))
theorem uf18b15 (P ts os Q) : awl P f18b15 Q ts os = awl P (.cond (.t 10) .skip (.exit 0)) Q ts os := id rfl
def f18b16 : AQ := (.seq f18b15 f18b14)
theorem uf18b16 (P ts os Q) : awl P f18b16 Q ts os = awl P (.seq f18b15 f18b14) Q ts os := id rfl
def f18r17 : List AI := [⟨none, (.bin 10 .lss (.t 9) (.t 8))⟩]
theorem uf18r17 : type_of% @f18r17.eq_1 := id @f18r17.eq_1
def f18b18 : AQ := (.seq (.region f18r17) f18b16)
theorem uf18b18 (P ts os Q) : awl P f18b18 Q ts os = awl P (.seq (.region f18r17) f18b16) Q ts os := id rfl
def f18l19 : AQ := .loop [7, 8, 9] [] f18b18
theorem uf18l19 (P ts os Q) : awl P f18l19 Q ts os = awl P (.loop [7, 8, 9] [] f18b18) Q ts os := id rfl
def f18b20 : AQ := (.block 0 f18l19)
theorem uf18b20 (P ts os Q) : awl P f18b20 Q ts os = awl P (.block 0 f18l19) Q ts os := id rfl
def f18r21 : List AI := [⟨none, (.mov 7 (.t 0))⟩, ⟨none, (.len 8 (.t 7))⟩, ⟨none, (.mov 9 (.v (.k (.c (.int .i64 0)))))⟩]
theorem uf18r21 : type_of% @f18r21.eq_1 := id @f18r21.eq_1
def f18b22 : AQ := (.seq (.region f18r21) f18b20)
theorem uf18b22 (P ts os Q) : awl P f18b22 Q ts os = awl P (.seq (.region f18r21) f18b20) Q ts os := id rfl
def f18b23 : AQ := (.seq f18b22 f18b2)
theorem uf18b23 (P ts os Q) : awl P f18b23 Q ts os = awl P (.seq f18b22 f18b2) Q ts os := id rfl
def f18r24 : List AI := [⟨none, (.mov 2 (.v (.k (.c (.int .i64 0)))))⟩, ⟨none, (.mov 3 (.v (.k (.c (.int .i64 0)))))⟩]
theorem uf18r24 : type_of% @f18r24.eq_1 := id @f18r24.eq_1
def f18b25 : AQ := (.seq (.region f18r24) f18b23)
theorem uf18b25 (P ts os Q) : awl P f18b25 Q ts os = awl P (.seq (.region f18r24) f18b23) Q ts os := id rfl
def f18 : AQ := f18b25
theorem uf18 (P ts os Q) : awl P f18 Q ts os = awl P f18b25 Q ts os := id rfl
theorem hf18 : cFunc Try.prog 18 = some ⟨21, f18.erase, [(RX.t 2), (RX.t 3)]⟩ := by kernel_rfl
theorem okf18 : f18.ok = true := by kernel_rfl
def f20r1 : List AI := [⟨none, (.mov 2 (.v (.k (.c (.int .i64 0)))))⟩]
theorem uf20r1 : type_of% @f20r1.eq_1 := id @f20r1.eq_1
def f20b2 : AQ := (.seq (.region f20r1) .ret)
theorem uf20b2 (P ts os Q) : awl P f20b2 Q ts os = awl P (.seq (.region f20r1) .ret) Q ts os := id rfl
def f20r3 : List AI := [⟨none, (.bin 76 .add (.t 57) (.v (.k (.c (.int .i64 1)))))⟩, ⟨none, (.mov 57 (.t 76))⟩]
theorem uf20r3 : type_of% @f20r3.eq_1 := id @f20r3.eq_1
def f20r4 : List AI := [⟨none, (.mov 2 (.v (.k (.c (.int .i64 11)))))⟩]
theorem uf20r4 : type_of% @f20r4.eq_1 := id @f20r4.eq_1
def f20b5 : AQ := (.seq (.region f20r4) .ret)
theorem uf20b5 (P ts os Q) : awl P f20b5 Q ts os = awl P (.seq (.region f20r4) .ret) Q ts os := id rfl
def f20b6 : AQ := (.cond (.t 75) f20b5 .skip)
theorem uf20b6 (P ts os Q) : awl P f20b6 Q ts os = awl P (.cond (.t 75) f20b5 .skip) Q ts os := id rfl
def f20r7 : List AI := [⟨none, (.mov 70 (.t 11))⟩, ⟨none, (.faddr 71 0 (.t 10))⟩, ⟨none, (.load 72 1 false (.t 71))⟩, ⟨none, (.iaddrA 73 1 22 (.t 8) (.t 72))⟩, ⟨none, (.load 74 1 false (.t 73))⟩, ⟨none, (.bin 75 .neq (.t 70) (.t 74))⟩]
theorem uf20r7 : type_of% @f20r7.eq_1 := id @f20r7.eq_1
def f20b8 : AQ := (.seq (.region f20r7) f20b6)
theorem uf20b8 (P ts os Q) : awl P f20b8 Q ts os = awl P (.seq (.region f20r7) f20b6) Q ts os := id rfl
def f20r9 : List AI := [⟨none, (.mov 69 (.t 12))⟩, ⟨none, (.mov 2 (.t 69))⟩]
theorem uf20r9 : type_of% @f20r9.eq_1 := id @f20r9.eq_1
def f20b10 : AQ := (.seq (.region f20r9) .ret)
theorem uf20b10 (P ts os Q) : awl P f20b10 Q ts os = awl P (.seq (.region f20r9) .ret) Q ts os := id rfl
def f20b11 : AQ := (.cond (.t 68) f20b10 .skip)
theorem uf20b11 (P ts os Q) : awl P f20b11 Q ts os = awl P (.cond (.t 68) f20b10 .skip) Q ts os := id rfl
def f20r12 : List AI := [⟨none, (.mov 67 (.t 12))⟩, ⟨none, (.bin 68 .neq (.t 67) (.v (.k (.c (.int .i64 0)))))⟩]
theorem uf20r12 : type_of% @f20r12.eq_1 := id @f20r12.eq_1
def f20b13 : AQ := (.seq (.region f20r12) f20b11)
theorem uf20b13 (P ts os Q) : awl P f20b13 Q ts os = awl P (.seq (.region f20r12) f20b11) Q ts os := id rfl
def f20b14 : AQ := (.seq f20b13 f20b8)
theorem uf20b14 (P ts os Q) : awl P f20b14 Q ts os = awl P (.seq f20b13 f20b8) Q ts os := id rfl
def f20r15 : List AI := [⟨none, (.faddr 62 1 (.t 10))⟩, ⟨none, (.load 63 3 true (.t 62))⟩, ⟨none, (.call (some 64) 31 [(.t 63)])⟩, ⟨none, (.mov 61 (.t 64))⟩, ⟨none, (.extr 65 (.t 61) 0)⟩, ⟨none, (.extr 66 (.t 61) 1)⟩, ⟨none, (.mov 11 (.t 65))⟩, ⟨none, (.mov 12 (.t 66))⟩]
theorem uf20r15 : type_of% @f20r15.eq_1 := id @f20r15.eq_1
def f20b16 : AQ := (.seq (.region f20r15) f20b14)
theorem uf20b16 (P ts os Q) : awl P f20b16 Q ts os = awl P (.seq (.region f20r15) f20b14) Q ts os := id rfl
def f20r17 : List AI := [⟨none, (.iaddr 59 4 (.t 55) (.t 57))⟩, ⟨none, (.load 60 4 true (.t 59))⟩, ⟨none, (.alloc 10 43 [(.int .i64 0), (.int .i64 0), (.int .i64 0), (.list 0 (some true) [])])⟩, ⟨none, (.store 4 (.t 10) (.t 60))⟩]
theorem uf20r17 : type_of% @f20r17.eq_1 := id @f20r17.eq_1
def f20b18 : AQ := (.seq (.region f20r17) f20b16)
theorem uf20b18 (P ts os Q) : awl P f20b18 Q ts os = awl P (.seq (.region f20r17) f20b16) Q ts os := id rfl
def f20b19 : AQ := (.block 5 f20b18)
theorem uf20b19 (P ts os Q) : awl P f20b19 Q ts os = awl P (.block 5 f20b18) Q ts os := id rfl
def f20b20 : AQ := (.seq f20b19 (.region f20r3))
theorem uf20b20 (P ts os Q) : awl P f20b20 Q ts os = awl P (.seq f20b19 (.region f20r3)) Q ts os := id rfl
def f20b21 : AQ := (.cond (.t 58) .skip (.exit 4))
theorem uf20b21 (P ts os Q) : awl P f20b21 Q ts os = awl P (.cond (.t 58) .skip (.exit 4)) Q ts os := id rfl
def f20b22 : AQ := (.seq f20b21 f20b20)
theorem uf20b22 (P ts os Q) : awl P f20b22 Q ts os = awl P (.seq f20b21 f20b20) Q ts os := id rfl
def f20r23 : List AI := [⟨none, (.bin 58 .lss (.t 57) (.t 56))⟩]
theorem uf20r23 : type_of% @f20r23.eq_1 := id @f20r23.eq_1
def f20b24 : AQ := (.seq (.region f20r23) f20b22)
theorem uf20b24 (P ts os Q) : awl P f20b24 Q ts os = awl P (.seq (.region f20r23) f20b22) Q ts os := id rfl
def f20l25 : AQ := .loop [8, 55, 56, 57] [8, 53, 54000, 54001, 54002] f20b24
theorem uf20l25 (P ts os Q) : awl P f20l25 Q ts os = awl P (.loop [8, 55, 56, 57] [8, 53, 54000, 54001, 54002] f20b24) Q ts os := id rfl
def f20b26 : AQ := (.block 4 f20l25)
theorem uf20b26 (P ts os Q) : awl P f20b26 Q ts os = awl P (.block 4 f20l25) Q ts os := id rfl
def f20r27 : List AI := [⟨none, (.faddr 54 3 (.t 1))⟩, ⟨none, (.load 55 1 false (.t 54))⟩, ⟨none, (.len 56 (.t 55))⟩, ⟨none, (.mov 57 (.v (.k (.c (.int .i64 0)))))⟩]
theorem uf20r27 : type_of% @f20r27.eq_1 := id @f20r27.eq_1
def f20b28 : AQ := (.seq (.region f20r27) f20b26)
theorem uf20b28 (P ts os Q) : awl P f20b28 Q ts os = awl P (.seq (.region f20r27) f20b26) Q ts os := id rfl
def f20b29 : AQ := (.seq f20b28 f20b2)
theorem uf20b29 (P ts os Q) : awl P f20b29 Q ts os = awl P (.seq f20b28 f20b2) Q ts os := id rfl
def f20r30 : List AI := [⟨none, (.call (some 53) 44 [])⟩, ⟨none, (.alloc 8 65 [(.int .i64 0), (.int .i64 0), (.int .i64 0), (.int .i64 0), (.int .i64 0), (.int .i64 0), (.int .i64 0), (.int .i64 0), (.int .i64 0), (.int .i64 0), (.int .i64 0), (.int .i64 0), (.int .i64 0), (.int .i64 0), (.int .i64 0), (.int .i64 0), (.int .i64 0), (.int .i64 0), (.int .i64 0), (.int .i64 0), (.int .i64 0), (.int .i64 0)])⟩, ⟨none, (.store 22 (.t 8) (.t 53))⟩]
theorem uf20r30 : type_of% @f20r30.eq_1 := id @f20r30.eq_1
def f20b31 : AQ := (.seq (.region f20r30) f20b29)
theorem uf20b31 (P ts os Q) : awl P f20b31 Q ts os = awl P (.seq (.region f20r30) f20b29) Q ts os := id rfl
def f20r32 : List AI := [⟨none, (.bin 52 .add (.t 41) (.v (.k (.c (.int .i64 1)))))⟩, ⟨none, (.mov 41 (.t 52))⟩]
theorem uf20r32 : type_of% @f20r32.eq_1 := id @f20r32.eq_1
def f20r33 : List AI := [⟨none, (.faddr 50 0 (.t 7))⟩, ⟨none, (.load 51 1 false (.t 50))⟩, ⟨none, (.mov 3 (.t 51))⟩]
theorem uf20r33 : type_of% @f20r33.eq_1 := id @f20r33.eq_1
def f20r34 : List AI := [⟨none, (.mov 2 (.v (.k (.c (.int .i64 1)))))⟩]
theorem uf20r34 : type_of% @f20r34.eq_1 := id @f20r34.eq_1
def f20b35 : AQ := (.seq (.region f20r34) .ret)
theorem uf20b35 (P ts os Q) : awl P f20b35 Q ts os = awl P (.seq (.region f20r34) .ret) Q ts os := id rfl
def f20b36 : AQ := (.cond (.t 49) f20b35 .skip)
theorem uf20b36 (P ts os Q) : awl P f20b36 Q ts os = awl P (.cond (.t 49) f20b35 .skip) Q ts os := id rfl
def f20r37 : List AI := [⟨none, (.mov 45 (.t 3))⟩, ⟨none, (.faddr 46 0 (.t 7))⟩, ⟨none, (.load 47 1 false (.t 46))⟩, ⟨none, (.call (some 48) 45 [(.t 45), (.t 47)])⟩, ⟨none, (.un 49 .not (.t 48))⟩]
theorem uf20r37 : type_of% @f20r37.eq_1 := id @f20r37.eq_1
def f20b38 : AQ := (.seq (.region f20r37) f20b36)
theorem uf20b38 (P ts os Q) : awl P f20b38 Q ts os = awl P (.seq (.region f20r37) f20b36) Q ts os := id rfl
def f20b39 : AQ := (.seq f20b38 (.region f20r33))
theorem uf20b39 (P ts os Q) : awl P f20b39 Q ts os = awl P (.seq f20b38 (.region f20r33)) Q ts os := id rfl
def f20r40 : List AI := [⟨none, (.iaddr 43 4 (.t 39) (.t 41))⟩, ⟨none, (.load 44 4 true (.t 43))⟩, ⟨none, (.alloc 7 43 [(.int .i64 0), (.int .i64 0), (.int .i64 0), (.list 0 (some true) [])])⟩, ⟨none, (.store 4 (.t 7) (.t 44))⟩]
theorem uf20r40 : type_of% @f20r40.eq_1 := id @f20r40.eq_1
def f20b41 : AQ := (.seq (.region f20r40) f20b39)
theorem uf20b41 (P ts os Q) : awl P f20b41 Q ts os = awl P (.seq (.region f20r40) f20b39) Q ts os := id rfl
def f20b42 : AQ := (.block 3 f20b41)
theorem uf20b42 (P ts os Q) : awl P f20b42 Q ts os = awl P (.block 3 f20b41) Q ts os := id rfl
def f20b43 : AQ := (.seq f20b42 (.region f20r32))
theorem uf20b43 (P ts os Q) : awl P f20b43 Q ts os = awl P (.seq f20b42 (.region f20r32)) Q ts os := id rfl
def f20b44 : AQ := (.cond (.t 42) .skip (.exit 2))
theorem uf20b44 (P ts os Q) : awl P f20b44 Q ts os = awl P (.cond (.t 42) .skip (.exit 2)) Q ts os := id rfl
def f20b45 : AQ := (.seq f20b44 f20b43)
theorem uf20b45 (P ts os Q) : awl P f20b45 Q ts os = awl P (.seq f20b44 f20b43) Q ts os := id rfl
def f20r46 : List AI := [⟨none, (.bin 42 .lss (.t 41) (.t 40))⟩]
theorem uf20r46 : type_of% @f20r46.eq_1 := id @f20r46.eq_1
def f20b47 : AQ := (.seq (.region f20r46) f20b45)
theorem uf20b47 (P ts os Q) : awl P f20b47 Q ts os = awl P (.seq (.region f20r46) f20b45) Q ts os := id rfl
def f20l48 : AQ := .loop [1, 3, 39, 40, 41] [1] f20b47
theorem uf20l48 (P ts os Q) : awl P f20l48 Q ts os = awl P (.loop [1, 3, 39, 40, 41] [1] f20b47) Q ts os := id rfl
def f20b49 : AQ := (.block 2 f20l48)
theorem uf20b49 (P ts os Q) : awl P f20b49 Q ts os = awl P (.block 2 f20l48) Q ts os := id rfl
def f20r50 : List AI := [⟨none, (.faddr 38 3 (.t 1))⟩, ⟨none, (.load 39 1 false (.t 38))⟩, ⟨none, (.len 40 (.t 39))⟩, ⟨none, (.mov 41 (.v (.k (.c (.int .i64 0)))))⟩]
theorem uf20r50 : type_of% @f20r50.eq_1 := id @f20r50.eq_1
def f20b51 : AQ := (.seq (.region f20r50) f20b49)
theorem uf20b51 (P ts os Q) : awl P f20b51 Q ts os = awl P (.seq (.region f20r50) f20b49) Q ts os := id rfl
def f20b52 : AQ := (.seq f20b51 f20b31)
theorem uf20b52 (P ts os Q) : awl P f20b52 Q ts os = awl P (.seq f20b51 f20b31) Q ts os := id rfl
def f20r53 : List AI := [⟨none, (.mov 3 (.v (.k (.c (.int .i64 (-1))))))⟩]
theorem uf20r53 : type_of% @f20r53.eq_1 := id @f20r53.eq_1
def f20b54 : AQ := (.seq (.region f20r53) f20b52)
theorem uf20b54 (P ts os Q) : awl P f20b54 Q ts os = awl P (.seq (.region f20r53) f20b52) Q ts os := id rfl
def f20r55 : List AI := [⟨none, (.bin 37 .add (.t 16) (.v (.k (.c (.int .i64 1)))))⟩, ⟨none, (.mov 16 (.t 37))⟩]
theorem uf20r55 : type_of% @f20r55.eq_1 := id @f20r55.eq_1
def f20r56 : List AI := [⟨none, (.faddr 35 0 (.t 5))⟩, ⟨none, (.load 36 1 false (.t 35))⟩, ⟨none, (.mov 3 (.t 36))⟩]
theorem uf20r56 : type_of% @f20r56.eq_1 := id @f20r56.eq_1
def f20r57 : List AI := [⟨none, (.mov 2 (.v (.k (.c (.int .i64 1)))))⟩]
theorem uf20r57 : type_of% @f20r57.eq_1 := id @f20r57.eq_1
def f20b58 : AQ := (.seq (.region f20r57) .ret)
theorem uf20b58 (P ts os Q) : awl P f20b58 Q ts os = awl P (.seq (.region f20r57) .ret) Q ts os := id rfl
def f20b59 : AQ := (.cond (.t 34) f20b58 .skip)
theorem uf20b59 (P ts os Q) : awl P f20b59 Q ts os = awl P (.cond (.t 34) f20b58 .skip) Q ts os := id rfl
def f20r60 : List AI := [⟨none, (.mov 20 (.t 3))⟩, ⟨none, (.faddr 21 0 (.t 5))⟩, ⟨none, (.load 22 1 false (.t 21))⟩, ⟨none, (.call (some 23) 45 [(.t 20), (.t 22)])⟩, ⟨none, (.un 24 .not (.t 23))⟩, ⟨none, (.mov 25 (.t 24))⟩, ⟨(some (25, false)), (.faddr 26 1 (.t 5))⟩, ⟨(some (25, false)), (.load 27 1 false (.t 26))⟩, ⟨(some (25, false)), (.bin 28 .lss (.t 27) (.v (.k (.c (.int .i64 0)))))⟩, ⟨none, (.pick 29 (.t 25) (.v (.k (.c (.bool true)))) (.t 28))⟩, ⟨none, (.mov 30 (.t 29))⟩, ⟨(some (30, false)), (.faddr 31 1 (.t 5))⟩, ⟨(some (30, false)), (.load 32 1 false (.t 31))⟩, ⟨(some (30, false)), (.bin 33 .geq (.t 32) (.v (.k (.c (.int .i64 5)))))⟩, ⟨none, (.pick 34 (.t 30) (.v (.k (.c (.bool true)))) (.t 33))⟩]
theorem uf20r60 : type_of% @f20r60.eq_1 := id @f20r60.eq_1
def f20b61 : AQ := (.seq (.region f20r60) f20b59)
theorem uf20b61 (P ts os Q) : awl P f20b61 Q ts os = awl P (.seq (.region f20r60) f20b59) Q ts os := id rfl
def f20b62 : AQ := (.seq f20b61 (.region f20r56))
theorem uf20b62 (P ts os Q) : awl P f20b62 Q ts os = awl P (.seq f20b61 (.region f20r56)) Q ts os := id rfl
def f20r63 : List AI := [⟨none, (.iaddr 18 3 (.t 14) (.t 16))⟩, ⟨none, (.load 19 3 true (.t 18))⟩, ⟨none, (.alloc 5 45 [(.int .i64 0), (.int .i64 0), (.bool false)])⟩, ⟨none, (.store 3 (.t 5) (.t 19))⟩]
theorem uf20r63 : type_of% @f20r63.eq_1 := id @f20r63.eq_1
def f20b64 : AQ := (.seq (.region f20r63) f20b62)
theorem uf20b64 (P ts os Q) : awl P f20b64 Q ts os = awl P (.seq (.region f20r63) f20b62) Q ts os := id rfl
def f20b65 : AQ := (.block 1 f20b64)
theorem uf20b65 (P ts os Q) : awl P f20b65 Q ts os = awl P (.block 1 f20b64) Q ts os := id rfl
def f20b66 : AQ := (.seq f20b65 (.region f20r55))
theorem uf20b66 (P ts os Q) : awl P f20b66 Q ts os = awl P (.seq f20b65 (.region f20r55)) Q ts os := id rfl
def f20b67 : AQ := (.cond (.t 17) .skip (.exit 0))
theorem uf20b67 (P ts os Q) : awl P f20b67 Q ts os = awl P (.cond (.t 17) .skip (.exit 0)) Q ts os := id rfl
def f20b68 : AQ := (.seq f20b67 f20b66)
theorem uf20b68 (P ts os Q) : awl P f20b68 Q ts os = awl P (.seq f20b67 f20b66) Q ts os := id rfl
def f20r69 : List AI := [⟨none, (.bin 17 .lss (.t 16) (.t 15))⟩]
theorem uf20r69 : type_of% @f20r69.eq_1 := id @f20r69.eq_1
def f20b70 : AQ := (.seq (.region f20r69) f20b68)
theorem uf20b70 (P ts os Q) : awl P f20b70 Q ts os = awl P (.seq (.region f20r69) f20b68) Q ts os := id rfl
def f20l71 : AQ := .loop [1, 3, 14, 15, 16] [1] f20b70
theorem uf20l71 (P ts os Q) : awl P f20l71 Q ts os = awl P (.loop [1, 3, 14, 15, 16] [1] f20b70) Q ts os := id rfl
def f20b72 : AQ := (.block 0 f20l71)
theorem uf20b72 (P ts os Q) : awl P f20b72 Q ts os = awl P (.block 0 f20l71) Q ts os := id rfl
def f20r73 : List AI := [⟨none, (.faddr 13 2 (.t 1))⟩, ⟨none, (.load 14 1 false (.t 13))⟩, ⟨none, (.len 15 (.t 14))⟩, ⟨none, (.mov 16 (.v (.k (.c (.int .i64 0)))))⟩]
theorem uf20r73 : type_of% @f20r73.eq_1 := id @f20r73.eq_1
def f20b74 : AQ := (.seq (.region f20r73) f20b72)
theorem uf20b74 (P ts os Q) : awl P f20b74 Q ts os = awl P (.seq (.region f20r73) f20b72) Q ts os := id rfl
def f20b75 : AQ := (.seq f20b74 f20b54)
theorem uf20b75 (P ts os Q) : awl P f20b75 Q ts os = awl P (.seq f20b74 f20b54) Q ts os := id rfl
def f20r76 : List AI := [⟨none, (.mov 3 (.v (.k (.c (.int .i64 (-1))))))⟩]
theorem uf20r76 : type_of% @f20r76.eq_1 := id @f20r76.eq_1
def f20b77 : AQ := (.seq (.region f20r76) f20b75)
theorem uf20b77 (P ts os Q) : awl P f20b77 Q ts os = awl P (.seq (.region f20r76) f20b75) Q ts os := id rfl
def f20r78 : List AI := [⟨none, (.box 1 25 (.t 0))⟩, ⟨none, (.mov 2 (.v (.k (.c (.int .i64 0)))))⟩]
theorem uf20r78 : type_of% @f20r78.eq_1 := id @f20r78.eq_1
def f20b79 : AQ := (.seq (.region f20r78) f20b77)
theorem uf20b79 (P ts os Q) : awl P f20b79 Q ts os = awl P (.seq (.region f20r78) f20b77) Q ts os := id rfl
def f20 : AQ := f20b79
theorem uf20 (P ts os Q) : awl P f20 Q ts os = awl P f20b79 Q ts os := id rfl
theorem hf20 : cFunc Try.prog 20 = some ⟨77, f20.erase, [(RX.t 2)]⟩ := by kernel_rfl
theorem okf20 : f20.ok = true := by kernel_rfl
def f22r1 : List AI := [⟨none, (.mov 4 (.v (.k (.c (.bool true)))))⟩]
theorem uf22r1 : type_of% @f22r1.eq_1 := id @f22r1.eq_1
def f22b2 : AQ := (.seq (.region f22r1) .ret)
theorem uf22b2 (P ts os Q) : awl P f22b2 Q ts os = awl P (.seq (.region f22r1) .ret) Q ts os := id rfl
def f22r3 : List AI := [⟨none, (.mov 15 (.t 5))⟩, ⟨none, (.bin 16 .add (.t 15) (.v (.k (.c (.int .i64 1)))))⟩, ⟨none, (.mov 5 (.t 16))⟩]
theorem uf22r3 : type_of% @f22r3.eq_1 := id @f22r3.eq_1
def f22r4 : List AI := [⟨none, (.mov 4 (.v (.k (.c (.bool false)))))⟩]
theorem uf22r4 : type_of% @f22r4.eq_1 := id @f22r4.eq_1
def f22b5 : AQ := (.seq (.region f22r4) .ret)
theorem uf22b5 (P ts os Q) : awl P f22b5 Q ts os = awl P (.seq (.region f22r4) .ret) Q ts os := id rfl
def f22b6 : AQ := (.cond (.t 25) f22b5 .skip)
theorem uf22b6 (P ts os Q) : awl P f22b6 Q ts os = awl P (.cond (.t 25) f22b5 .skip) Q ts os := id rfl
def f22r7 : List AI := [⟨none, (.mov 17 (.t 0))⟩, ⟨none, (.mov 18 (.t 5))⟩, ⟨none, (.iaddr 19 1 (.t 17) (.t 18))⟩, ⟨none, (.load 20 1 false (.t 19))⟩, ⟨none, (.mov 21 (.t 1))⟩, ⟨none, (.mov 22 (.t 5))⟩, ⟨none, (.iaddr 23 1 (.t 21) (.t 22))⟩, ⟨none, (.load 24 1 false (.t 23))⟩, ⟨none, (.bin 25 .neq (.t 20) (.t 24))⟩]
theorem uf22r7 : type_of% @f22r7.eq_1 := id @f22r7.eq_1
def f22b8 : AQ := (.seq (.draw f22r7 [[], [], [0, 1], [2], [], [], [4, 5], [6], [3, 7]]) f22b6)
theorem uf22b8 (P ts os Q) : awl P f22b8 Q ts os = awl P (.seq (.draw f22r7 [[], [], [0, 1], [2], [], [], [4, 5], [6], [3, 7]]) f22b6) Q ts os := id rfl
def f22b9 : AQ := (.block 1 f22b8)
theorem uf22b9 (P ts os Q) : awl P f22b9 Q ts os = awl P (.block 1 f22b8) Q ts os := id rfl
def f22b10 : AQ := (.seq f22b9 (.region f22r3))
theorem uf22b10 (P ts os Q) : awl P f22b10 Q ts os = awl P (.seq f22b9 (.region f22r3)) Q ts os := id rfl
def f22b11 : AQ := (.cond (.t 14) .skip (.exit 0))
theorem uf22b11 (P ts os Q) : awl P f22b11 Q ts os = awl P (.cond (.t 14) .skip (.exit 0)) Q ts os := id rfl
def f22r12 : List AI := [⟨none, (.mov 11 (.t 5))⟩, ⟨none, (.mov 12 (.t 0))⟩, ⟨none, (.len 13 (.t 12))⟩, ⟨none, (.bin 14 .lss (.t 11) (.t 13))⟩]
theorem uf22r12 : type_of% @f22r12.eq_1 := id @f22r12.eq_1
def f22b13 : AQ := (.seq (.region f22r12) f22b11)
theorem uf22b13 (P ts os Q) : awl P f22b13 Q ts os = awl P (.seq (.region f22r12) f22b11) Q ts os := id rfl
def f22b14 : AQ := (.seq f22b13 f22b10)
theorem uf22b14 (P ts os Q) : awl P f22b14 Q ts os = awl P (.seq f22b13 f22b10) Q ts os := id rfl
def f22l15 : AQ := .loop [0, 1, 5] [] f22b14
theorem uf22l15 (P ts os Q) : awl P f22l15 Q ts os = awl P (.loop [0, 1, 5] [] f22b14) Q ts os := id rfl
def f22b16 : AQ := (.block 0 f22l15)
theorem uf22b16 (P ts os Q) : awl P f22b16 Q ts os = awl P (.block 0 f22l15) Q ts os := id rfl
def f22r17 : List AI := [⟨none, (.mov 5 (.v (.k (.c (.int .i64 0)))))⟩]
theorem uf22r17 : type_of% @f22r17.eq_1 := id @f22r17.eq_1
def f22b18 : AQ := (.seq (.region f22r17) f22b16)
theorem uf22b18 (P ts os Q) : awl P f22b18 Q ts os = awl P (.seq (.region f22r17) f22b16) Q ts os := id rfl
def f22b19 : AQ := (.seq f22b18 f22b2)
theorem uf22b19 (P ts os Q) : awl P f22b19 Q ts os = awl P (.seq f22b18 f22b2) Q ts os := id rfl
def f22r20 : List AI := [⟨none, (.mov 4 (.v (.k (.c (.bool false)))))⟩]
theorem uf22r20 : type_of% @f22r20.eq_1 := id @f22r20.eq_1
def f22b21 : AQ := (.seq (.region f22r20) .ret)
theorem uf22b21 (P ts os Q) : awl P f22b21 Q ts os = awl P (.seq (.region f22r20) .ret) Q ts os := id rfl
def f22b22 : AQ := (.cond (.t 10) f22b21 .skip)
theorem uf22b22 (P ts os Q) : awl P f22b22 Q ts os = awl P (.cond (.t 10) f22b21 .skip) Q ts os := id rfl
def f22r23 : List AI := [⟨none, (.mov 6 (.t 0))⟩, ⟨none, (.len 7 (.t 6))⟩, ⟨none, (.mov 8 (.t 1))⟩, ⟨none, (.len 9 (.t 8))⟩, ⟨none, (.bin 10 .neq (.t 7) (.t 9))⟩]
theorem uf22r23 : type_of% @f22r23.eq_1 := id @f22r23.eq_1
def f22b24 : AQ := (.seq (.region f22r23) f22b22)
theorem uf22b24 (P ts os Q) : awl P f22b24 Q ts os = awl P (.seq (.region f22r23) f22b22) Q ts os := id rfl
def f22b25 : AQ := (.seq f22b24 f22b19)
theorem uf22b25 (P ts os Q) : awl P f22b25 Q ts os = awl P (.seq f22b24 f22b19) Q ts os := id rfl
def f22r26 : List AI := [⟨none, (.mov 4 (.v (.k (.c (.bool false)))))⟩]
theorem uf22r26 : type_of% @f22r26.eq_1 := id @f22r26.eq_1
def f22b27 : AQ := (.seq (.region f22r26) f22b25)
theorem uf22b27 (P ts os Q) : awl P f22b27 Q ts os = awl P (.seq (.region f22r26) f22b25) Q ts os := id rfl
def f22 : AQ := f22b27
theorem uf22 (P ts os Q) : awl P f22 Q ts os = awl P f22b27 Q ts os := id rfl
theorem hf22 : cFunc Try.prog 22 = some ⟨26, f22.erase, [(RX.t 4)]⟩ := by kernel_rfl
theorem okf22 : f22.ok = true := by kernel_rfl
def f23r1 : List AI := [⟨none, (.mov 18 (.t 3))⟩, ⟨none, (.mov 2 (.t 18))⟩]
theorem uf23r1 : type_of% @f23r1.eq_1 := id @f23r1.eq_1
def f23b2 : AQ := (.seq (.region f23r1) .ret)
theorem uf23b2 (P ts os Q) : awl P f23b2 Q ts os = awl P (.seq (.region f23r1) .ret) Q ts os := id rfl
def f23r3 : List AI := [⟨none, (.bin 17 .add (.t 5) (.v (.k (.c (.int .i64 1)))))⟩, ⟨none, (.mov 5 (.t 17))⟩]
theorem uf23r3 : type_of% @f23r3.eq_1 := id @f23r3.eq_1
def f23r4 : List AI := [⟨none, (.mov 13 (.t 3))⟩, ⟨none, (.load 14 1 false (.t 4))⟩, ⟨none, (.bslice 15 3 1 [(.int .i64 0)] 1 [(0, (.t 14))])⟩, ⟨none, (.append 16 3 1 8 (.t 13) (.t 15))⟩, ⟨none, (.mov 3 (.t 16))⟩]
theorem uf23r4 : type_of% @f23r4.eq_1 := id @f23r4.eq_1
def f23b5 : AQ := (.cond (.t 12) (.region f23r4) .skip)
theorem uf23b5 (P ts os Q) : awl P f23b5 Q ts os = awl P (.cond (.t 12) (.region f23r4) .skip) Q ts os := id rfl
def f23r6 : List AI := [⟨none, (.faddr 8 3 (.t 1))⟩, ⟨none, (.load 9 1 false (.t 8))⟩, ⟨none, (.mkfn 10 47 [(.t 4)])⟩, ⟨none, (.call (some 11) 46 [(.t 9), (.t 10)])⟩, ⟨none, (.un 12 .not (.t 11))⟩]
theorem uf23r6 : type_of% @f23r6.eq_1 := id @f23r6.eq_1
def f23b7 : AQ := (.seq (.region f23r6) f23b5)
theorem uf23b7 (P ts os Q) : awl P f23b7 Q ts os = awl P (.seq (.region f23r6) f23b5) Q ts os := id rfl
def f23r8 : List AI := [⟨none, (.mov 7 (.t 5))⟩, ⟨none, (.alloc 4 3 [(.int .i64 0)])⟩, ⟨none, (.store 1 (.t 4) (.t 7))⟩]
theorem uf23r8 : type_of% @f23r8.eq_1 := id @f23r8.eq_1
def f23b9 : AQ := (.seq (.region f23r8) f23b7)
theorem uf23b9 (P ts os Q) : awl P f23b9 Q ts os = awl P (.seq (.region f23r8) f23b7) Q ts os := id rfl
def f23b10 : AQ := (.block 1 f23b9)
theorem uf23b10 (P ts os Q) : awl P f23b10 Q ts os = awl P (.block 1 f23b9) Q ts os := id rfl
def f23b11 : AQ := (.seq f23b10 (.region f23r3))
theorem uf23b11 (P ts os Q) : awl P f23b11 Q ts os = awl P (.seq f23b10 (.region f23r3)) Q ts os := id rfl
def f23b12 : AQ := (.cond (.t 6) .skip (.exit 0))
theorem uf23b12 (P ts os Q) : awl P f23b12 Q ts os = awl P (.cond (.t 6) .skip (.exit 0)) Q ts os := id rfl
def f23b13 : AQ := (.seq f23b12 f23b11)
theorem uf23b13 (P ts os Q) : awl P f23b13 Q ts os = awl P (.seq f23b12 f23b11) Q ts os := id rfl
def f23r14 : List AI := [⟨none, (.bin 6 .lss (.t 5) (.v (.k (.c (.int .i64 22)))))⟩]
theorem uf23r14 : type_of% @f23r14.eq_1 := id @f23r14.eq_1
def f23b15 : AQ := (.seq (.region f23r14) f23b13)
theorem uf23b15 (P ts os Q) : awl P f23b15 Q ts os = awl P (.seq (.region f23r14) f23b13) Q ts os := id rfl
def f23l16 : AQ := .loop [1, 3, 5] [1, 3, 16] f23b15
theorem uf23l16 (P ts os Q) : awl P f23l16 Q ts os = awl P (.loop [1, 3, 5] [1, 3, 16] f23b15) Q ts os := id rfl
def f23b17 : AQ := (.block 0 f23l16)
theorem uf23b17 (P ts os Q) : awl P f23b17 Q ts os = awl P (.block 0 f23l16) Q ts os := id rfl
def f23r18 : List AI := [⟨none, (.mov 5 (.v (.k (.c (.int .i64 0)))))⟩]
theorem uf23r18 : type_of% @f23r18.eq_1 := id @f23r18.eq_1
def f23b19 : AQ := (.seq (.region f23r18) f23b17)
theorem uf23b19 (P ts os Q) : awl P f23b19 Q ts os = awl P (.seq (.region f23r18) f23b17) Q ts os := id rfl
def f23b20 : AQ := (.seq f23b19 f23b2)
theorem uf23b20 (P ts os Q) : awl P f23b20 Q ts os = awl P (.seq f23b19 f23b2) Q ts os := id rfl
def f23r21 : List AI := [⟨none, (.nilL 3 3 1)⟩]
theorem uf23r21 : type_of% @f23r21.eq_1 := id @f23r21.eq_1
def f23b22 : AQ := (.seq (.region f23r21) f23b20)
theorem uf23b22 (P ts os Q) : awl P f23b22 Q ts os = awl P (.seq (.region f23r21) f23b20) Q ts os := id rfl
def f23r23 : List AI := [⟨none, (.box 1 25 (.t 0))⟩, ⟨none, (.nilL 2 3 1)⟩]
theorem uf23r23 : type_of% @f23r23.eq_1 := id @f23r23.eq_1
def f23b24 : AQ := (.seq (.region f23r23) f23b22)
theorem uf23b24 (P ts os Q) : awl P f23b24 Q ts os = awl P (.seq (.region f23r23) f23b22) Q ts os := id rfl
def f23 : AQ := f23b24
theorem uf23 (P ts os Q) : awl P f23 Q ts os = awl P f23b24 Q ts os := id rfl
theorem hf23 : cFunc Try.prog 23 = some ⟨19, f23.erase, [(RX.t 2)]⟩ := by kernel_rfl
theorem okf23 : f23.ok = true := by kernel_rfl
def f25r1 : List AI := [⟨none, (.mov 21 (.t 3))⟩, ⟨none, (.call (some 22) 50 [(.t 21)])⟩, ⟨none, (.mov 2 (.t 22))⟩]
theorem uf25r1 : type_of% @f25r1.eq_1 := id @f25r1.eq_1
def f25b2 : AQ := (.seq (.region f25r1) .ret)
theorem uf25b2 (P ts os Q) : awl P f25b2 Q ts os = awl P (.seq (.region f25r1) .ret) Q ts os := id rfl
def f25r3 : List AI := [⟨none, (.mov 19 (.t 3))⟩, ⟨none, (.call (some 20) 49 [(.t 19)])⟩]
theorem uf25r3 : type_of% @f25r3.eq_1 := id @f25r3.eq_1
def f25b4 : AQ := (.seq (.region f25r3) f25b2)
theorem uf25b4 (P ts os Q) : awl P f25b4 Q ts os = awl P (.seq (.region f25r3) f25b2) Q ts os := id rfl
def f25r5 : List AI := [⟨none, (.bin 18 .add (.t 9) (.v (.k (.c (.int .i64 1)))))⟩, ⟨none, (.mov 9 (.t 18))⟩]
theorem uf25r5 : type_of% @f25r5.eq_1 := id @f25r5.eq_1
def f25r6 : List AI := [⟨none, (.mov 13 (.t 3))⟩, ⟨none, (.faddr 14 1 (.t 5))⟩, ⟨none, (.load 15 3 true (.t 14))⟩, ⟨none, (.call (some 16) 35 [(.t 15)])⟩, ⟨none, (.append 17 3 1 8 (.t 13) (.t 16))⟩, ⟨none, (.mov 3 (.t 17))⟩]
theorem uf25r6 : type_of% @f25r6.eq_1 := id @f25r6.eq_1
def f25r7 : List AI := [⟨none, (.iaddr 11 4 (.t 7) (.t 9))⟩, ⟨none, (.load 12 4 true (.t 11))⟩, ⟨none, (.alloc 5 43 [(.int .i64 0), (.int .i64 0), (.int .i64 0), (.list 0 (some true) [])])⟩, ⟨none, (.store 4 (.t 5) (.t 12))⟩]
theorem uf25r7 : type_of% @f25r7.eq_1 := id @f25r7.eq_1
def f25b8 : AQ := (.seq (.region f25r7) (.region f25r6))
theorem uf25b8 (P ts os Q) : awl P f25b8 Q ts os = awl P (.seq (.region f25r7) (.region f25r6)) Q ts os := id rfl
def f25b9 : AQ := (.block 1 f25b8)
theorem uf25b9 (P ts os Q) : awl P f25b9 Q ts os = awl P (.block 1 f25b8) Q ts os := id rfl
def f25b10 : AQ := (.seq f25b9 (.region f25r5))
theorem uf25b10 (P ts os Q) : awl P f25b10 Q ts os = awl P (.seq f25b9 (.region f25r5)) Q ts os := id rfl
def f25b11 : AQ := (.cond (.t 10) .skip (.exit 0))
theorem uf25b11 (P ts os Q) : awl P f25b11 Q ts os = awl P (.cond (.t 10) .skip (.exit 0)) Q ts os := id rfl
def f25b12 : AQ := (.seq f25b11 f25b10)
theorem uf25b12 (P ts os Q) : awl P f25b12 Q ts os = awl P (.seq f25b11 f25b10) Q ts os := id rfl
def f25r13 : List AI := [⟨none, (.bin 10 .lss (.t 9) (.t 8))⟩]
theorem uf25r13 : type_of% @f25r13.eq_1 := id @f25r13.eq_1
def f25b14 : AQ := (.seq (.region f25r13) f25b12)
theorem uf25b14 (P ts os Q) : awl P f25b14 Q ts os = awl P (.seq (.region f25r13) f25b12) Q ts os := id rfl
def f25l15 : AQ := .loop [3, 7, 8, 9] [3, 17] f25b14
theorem uf25l15 (P ts os Q) : awl P f25l15 Q ts os = awl P (.loop [3, 7, 8, 9] [3, 17] f25b14) Q ts os := id rfl
def f25b16 : AQ := (.block 0 f25l15)
theorem uf25b16 (P ts os Q) : awl P f25b16 Q ts os = awl P (.block 0 f25l15) Q ts os := id rfl
def f25r17 : List AI := [⟨none, (.faddr 6 3 (.t 1))⟩, ⟨none, (.load 7 1 false (.t 6))⟩, ⟨none, (.len 8 (.t 7))⟩, ⟨none, (.mov 9 (.v (.k (.c (.int .i64 0)))))⟩]
theorem uf25r17 : type_of% @f25r17.eq_1 := id @f25r17.eq_1
def f25b18 : AQ := (.seq (.region f25r17) f25b16)
theorem uf25b18 (P ts os Q) : awl P f25b18 Q ts os = awl P (.seq (.region f25r17) f25b16) Q ts os := id rfl
def f25b19 : AQ := (.seq f25b18 f25b4)
theorem uf25b19 (P ts os Q) : awl P f25b19 Q ts os = awl P (.seq f25b18 f25b4) Q ts os := id rfl
def f25r20 : List AI := [⟨none, (.nilL 3 3 1)⟩]
theorem uf25r20 : type_of% @f25r20.eq_1 := id @f25r20.eq_1
def f25b21 : AQ := (.seq (.region f25r20) f25b19)
theorem uf25b21 (P ts os Q) : awl P f25b21 Q ts os = awl P (.seq (.region f25r20) f25b19) Q ts os := id rfl
def f25r22 : List AI := [⟨none, (.box 1 25 (.t 0))⟩, ⟨none, (.nilL 2 3 1)⟩]
theorem uf25r22 : type_of% @f25r22.eq_1 := id @f25r22.eq_1
def f25b23 : AQ := (.seq (.region f25r22) f25b21)
theorem uf25b23 (P ts os Q) : awl P f25b23 Q ts os = awl P (.seq (.region f25r22) f25b21) Q ts os := id rfl
def f25 : AQ := f25b23
theorem uf25 (P ts os Q) : awl P f25 Q ts os = awl P f25b23 Q ts os := id rfl
theorem hf25 : cFunc Try.prog 25 = some ⟨23, f25.erase, [(RX.t 2)]⟩ := by kernel_rfl
theorem okf25 : f25.ok = true := by kernel_rfl
def f27r1 : List AI := [⟨none, (.mov 42 (.t 3))⟩, ⟨none, (.call (some 43) 50 [(.t 42)])⟩, ⟨none, (.mov 2 (.t 43))⟩]
theorem uf27r1 : type_of% @f27r1.eq_1 := id @f27r1.eq_1
def f27b2 : AQ := (.seq (.region f27r1) .ret)
theorem uf27b2 (P ts os Q) : awl P f27b2 Q ts os = awl P (.seq (.region f27r1) .ret) Q ts os := id rfl
def f27r3 : List AI := [⟨none, (.mov 40 (.t 3))⟩, ⟨none, (.call (some 41) 49 [(.t 40)])⟩]
theorem uf27r3 : type_of% @f27r3.eq_1 := id @f27r3.eq_1
def f27b4 : AQ := (.seq (.region f27r3) f27b2)
theorem uf27b4 (P ts os Q) : awl P f27b4 Q ts os = awl P (.seq (.region f27r3) f27b2) Q ts os := id rfl
def f27r5 : List AI := [⟨none, (.bin 39 .add (.t 10) (.v (.k (.c (.int .i64 1)))))⟩, ⟨none, (.mov 10 (.t 39))⟩]
theorem uf27r5 : type_of% @f27r5.eq_1 := id @f27r5.eq_1
def f27r6 : List AI := [⟨none, (.mov 34 (.t 3))⟩, ⟨none, (.faddr 35 0 (.t 5))⟩, ⟨none, (.load 36 1 false (.t 35))⟩, ⟨none, (.bslice 37 3 1 [(.int .i64 0)] 1 [(0, (.t 36))])⟩, ⟨none, (.append 38 3 1 8 (.t 34) (.t 37))⟩, ⟨none, (.mov 3 (.t 38))⟩]
theorem uf27r6 : type_of% @f27r6.eq_1 := id @f27r6.eq_1
def f27b7 : AQ := (.cond (.t 33) (.region f27r6) .skip)
theorem uf27b7 (P ts os Q) : awl P f27b7 Q ts os = awl P (.cond (.t 33) (.region f27r6) .skip) Q ts os := id rfl
def f27r8 : List AI := [⟨none, (.mov 27 (.t 6))⟩, ⟨none, (.mov 28 (.t 27))⟩, ⟨(some (28, true)), (.faddr 29 1 (.t 5))⟩, ⟨(some (28, true)), (.load 30 3 true (.t 29))⟩, ⟨(some (28, true)), (.call (some 31) 35 [(.t 30)])⟩, ⟨(some (28, true)), (.call (some 32) 52 [(.t 31), (.v (.k (.c (.fn 53 []))))])⟩, ⟨none, (.pick 33 (.t 28) (.t 32) (.v (.k (.c (.bool false)))))⟩]
theorem uf27r8 : type_of% @f27r8.eq_1 := id @f27r8.eq_1
def f27b9 : AQ := (.seq (.region f27r8) f27b7)
theorem uf27b9 (P ts os Q) : awl P f27b9 Q ts os = awl P (.seq (.region f27r8) f27b7) Q ts os := id rfl
def f27r10 : List AI := [⟨none, (.faddr 14 0 (.t 5))⟩, ⟨none, (.load 15 1 false (.t 14))⟩, ⟨none, (.bin 16 .eql (.t 15) (.v (.k (.c (.int .i64 0)))))⟩, ⟨none, (.mov 17 (.t 16))⟩, ⟨(some (17, false)), (.faddr 18 0 (.t 5))⟩, ⟨(some (17, false)), (.load 19 1 false (.t 18))⟩, ⟨(some (17, false)), (.bin 20 .eql (.t 19) (.v (.k (.c (.int .i64 6)))))⟩, ⟨none, (.pick 21 (.t 17) (.v (.k (.c (.bool true)))) (.t 20))⟩, ⟨none, (.mov 22 (.t 21))⟩, ⟨(some (22, false)), (.faddr 23 0 (.t 5))⟩, ⟨(some (22, false)), (.load 24 1 false (.t 23))⟩, ⟨(some (22, false)), (.bin 25 .eql (.t 24) (.v (.k (.c (.int .i64 7)))))⟩, ⟨none, (.pick 26 (.t 22) (.v (.k (.c (.bool true)))) (.t 25))⟩, ⟨none, (.mov 6 (.t 26))⟩]
theorem uf27r10 : type_of% @f27r10.eq_1 := id @f27r10.eq_1
def f27b11 : AQ := (.seq (.region f27r10) f27b9)
theorem uf27b11 (P ts os Q) : awl P f27b11 Q ts os = awl P (.seq (.region f27r10) f27b9) Q ts os := id rfl
def f27r12 : List AI := [⟨none, (.iaddr 12 4 (.t 8) (.t 10))⟩, ⟨none, (.load 13 4 true (.t 12))⟩, ⟨none, (.alloc 5 43 [(.int .i64 0), (.int .i64 0), (.int .i64 0), (.list 0 (some true) [])])⟩, ⟨none, (.store 4 (.t 5) (.t 13))⟩]
theorem uf27r12 : type_of% @f27r12.eq_1 := id @f27r12.eq_1
def f27b13 : AQ := (.seq (.region f27r12) f27b11)
theorem uf27b13 (P ts os Q) : awl P f27b13 Q ts os = awl P (.seq (.region f27r12) f27b11) Q ts os := id rfl
def f27b14 : AQ := (.block 1 f27b13)
theorem uf27b14 (P ts os Q) : awl P f27b14 Q ts os = awl P (.block 1 f27b13) Q ts os := id rfl
def f27b15 : AQ := (.seq f27b14 (.region f27r5))
theorem uf27b15 (P ts os Q) : awl P f27b15 Q ts os = awl P (.seq f27b14 (.region f27r5)) Q ts os := id rfl
def f27b16 : AQ := (.cond (.t 11) .skip (.exit 0))
theorem uf27b16 (P ts os Q) : awl P f27b16 Q ts os = awl P (.cond (.t 11) .skip (.exit 0)) Q ts os := id rfl
def f27b17 : AQ := (.seq f27b16 f27b15)
theorem uf27b17 (P ts os Q) : awl P f27b17 Q ts os = awl P (.seq f27b16 f27b15) Q ts os := id rfl
def f27r18 : List AI := [⟨none, (.bin 11 .lss (.t 10) (.t 9))⟩]
theorem uf27r18 : type_of% @f27r18.eq_1 := id @f27r18.eq_1
def f27b19 : AQ := (.seq (.region f27r18) f27b17)
theorem uf27b19 (P ts os Q) : awl P f27b19 Q ts os = awl P (.seq (.region f27r18) f27b17) Q ts os := id rfl
def f27l20 : AQ := .loop [3, 8, 9, 10] [3, 38] f27b19
theorem uf27l20 (P ts os Q) : awl P f27l20 Q ts os = awl P (.loop [3, 8, 9, 10] [3, 38] f27b19) Q ts os := id rfl
def f27b21 : AQ := (.block 0 f27l20)
theorem uf27b21 (P ts os Q) : awl P f27b21 Q ts os = awl P (.block 0 f27l20) Q ts os := id rfl
def f27r22 : List AI := [⟨none, (.faddr 7 3 (.t 1))⟩, ⟨none, (.load 8 1 false (.t 7))⟩, ⟨none, (.len 9 (.t 8))⟩, ⟨none, (.mov 10 (.v (.k (.c (.int .i64 0)))))⟩]
theorem uf27r22 : type_of% @f27r22.eq_1 := id @f27r22.eq_1
def f27b23 : AQ := (.seq (.region f27r22) f27b21)
theorem uf27b23 (P ts os Q) : awl P f27b23 Q ts os = awl P (.seq (.region f27r22) f27b21) Q ts os := id rfl
def f27b24 : AQ := (.seq f27b23 f27b4)
theorem uf27b24 (P ts os Q) : awl P f27b24 Q ts os = awl P (.seq f27b23 f27b4) Q ts os := id rfl
def f27r25 : List AI := [⟨none, (.nilL 3 3 1)⟩]
theorem uf27r25 : type_of% @f27r25.eq_1 := id @f27r25.eq_1
def f27b26 : AQ := (.seq (.region f27r25) f27b24)
theorem uf27b26 (P ts os Q) : awl P f27b26 Q ts os = awl P (.seq (.region f27r25) f27b24) Q ts os := id rfl
def f27r27 : List AI := [⟨none, (.box 1 25 (.t 0))⟩, ⟨none, (.nilL 2 3 1)⟩]
theorem uf27r27 : type_of% @f27r27.eq_1 := id @f27r27.eq_1
def f27b28 : AQ := (.seq (.region f27r27) f27b26)
theorem uf27b28 (P ts os Q) : awl P f27b28 Q ts os = awl P (.seq (.region f27r27) f27b26) Q ts os := id rfl
def f27 : AQ := f27b28
theorem uf27 (P ts os Q) : awl P f27 Q ts os = awl P f27b28 Q ts os := id rfl
theorem hf27 : cFunc Try.prog 27 = some ⟨44, f27.erase, [(RX.t 2)]⟩ := by kernel_rfl
theorem okf27 : f27.ok = true := by kernel_rfl
def f30r1 : List AI := [⟨none, (.load 3 3 true (.t 1))⟩, ⟨none, (.call (some 4) 58 [(.t 3), (.v (.k (.c (.int .i64 100)))), (.v (.k (.c (.int .i64 20))))])⟩, ⟨none, (.bin 5 .geq (.t 4) (.v (.k (.c (.int .i64 0)))))⟩, ⟨none, (.mov 2 (.t 5))⟩]
theorem uf30r1 : type_of% @f30r1.eq_1 := id @f30r1.eq_1
def f30b2 : AQ := (.seq (.region f30r1) .ret)
theorem uf30b2 (P ts os Q) : awl P f30b2 Q ts os = awl P (.seq (.region f30r1) .ret) Q ts os := id rfl
def f30r3 : List AI := [⟨none, (.box 1 41 (.t 0))⟩, ⟨none, (.mov 2 (.v (.k (.c (.bool false)))))⟩]
theorem uf30r3 : type_of% @f30r3.eq_1 := id @f30r3.eq_1
def f30b4 : AQ := (.seq (.region f30r3) f30b2)
theorem uf30b4 (P ts os Q) : awl P f30b4 Q ts os = awl P (.seq (.region f30r3) f30b2) Q ts os := id rfl
def f30 : AQ := f30b4
theorem uf30 (P ts os Q) : awl P f30 Q ts os = awl P f30b4 Q ts os := id rfl
theorem hf30 : cFunc Try.prog 30 = some ⟨6, f30.erase, [(RX.t 2)]⟩ := by kernel_rfl
theorem okf30 : f30.ok = true := by kernel_rfl
def f31r1 : List AI := [⟨none, (.load 7 3 true (.t 1))⟩, ⟨none, (.call (some 8) 60 [(.t 7)])⟩, ⟨none, (.extr 9 (.t 8) 0)⟩, ⟨none, (.extr 10 (.t 8) 1)⟩, ⟨none, (.mov 2 (.t 9))⟩, ⟨none, (.mov 3 (.t 10))⟩]
theorem uf31r1 : type_of% @f31r1.eq_1 := id @f31r1.eq_1
def f31b2 : AQ := (.seq (.region f31r1) .ret)
theorem uf31b2 (P ts os Q) : awl P f31b2 Q ts os = awl P (.seq (.region f31r1) .ret) Q ts os := id rfl
def f31r3 : List AI := [⟨none, (.mov 2 (.v (.k (.c (.int .i64 0)))))⟩, ⟨none, (.mov 3 (.v (.k (.c (.int .i64 6)))))⟩]
theorem uf31r3 : type_of% @f31r3.eq_1 := id @f31r3.eq_1
def f31b4 : AQ := (.seq (.region f31r3) .ret)
theorem uf31b4 (P ts os Q) : awl P f31b4 Q ts os = awl P (.seq (.region f31r3) .ret) Q ts os := id rfl
def f31b5 : AQ := (.cond (.t 6) f31b4 .skip)
theorem uf31b5 (P ts os Q) : awl P f31b5 Q ts os = awl P (.cond (.t 6) f31b4 .skip) Q ts os := id rfl
def f31r6 : List AI := [⟨none, (.load 4 3 true (.t 1))⟩, ⟨none, (.call (some 5) 59 [(.t 4), (.v (.k (.c (.int .i64 1))))])⟩, ⟨none, (.bin 6 .gtr (.t 5) (.v (.k (.c (.int .i64 60)))))⟩]
theorem uf31r6 : type_of% @f31r6.eq_1 := id @f31r6.eq_1
def f31b7 : AQ := (.seq (.region f31r6) f31b5)
theorem uf31b7 (P ts os Q) : awl P f31b7 Q ts os = awl P (.seq (.region f31r6) f31b5) Q ts os := id rfl
def f31b8 : AQ := (.seq f31b7 f31b2)
theorem uf31b8 (P ts os Q) : awl P f31b8 Q ts os = awl P (.seq f31b7 f31b2) Q ts os := id rfl
def f31r9 : List AI := [⟨none, (.box 1 41 (.t 0))⟩, ⟨none, (.mov 2 (.v (.k (.c (.int .i64 0)))))⟩, ⟨none, (.mov 3 (.v (.k (.c (.int .i64 0)))))⟩]
theorem uf31r9 : type_of% @f31r9.eq_1 := id @f31r9.eq_1
def f31b10 : AQ := (.seq (.region f31r9) f31b8)
theorem uf31b10 (P ts os Q) : awl P f31b10 Q ts os = awl P (.seq (.region f31r9) f31b8) Q ts os := id rfl
def f31 : AQ := f31b10
theorem uf31 (P ts os Q) : awl P f31 Q ts os = awl P f31b10 Q ts os := id rfl
theorem hf31 : cFunc Try.prog 31 = some ⟨11, f31.erase, [(RX.t 2), (RX.t 3)]⟩ := by kernel_rfl
theorem okf31 : f31.ok = true := by kernel_rfl
def f33r1 : List AI := [⟨none, (.mov 2 (.v (.k (.c (.int .i64 1)))))⟩, ⟨none, (.mov 3 (.v (.k (.c (.bool true)))))⟩]
theorem uf33r1 : type_of% @f33r1.eq_1 := id @f33r1.eq_1
def f33b2 : AQ := (.seq (.region f33r1) .ret)
theorem uf33b2 (P ts os Q) : awl P f33b2 Q ts os = awl P (.seq (.region f33r1) .ret) Q ts os := id rfl
def f33r3 : List AI := [⟨none, (.mov 2 (.v (.k (.c (.int .i64 0)))))⟩, ⟨none, (.mov 3 (.v (.k (.c (.bool false)))))⟩]
theorem uf33r3 : type_of% @f33r3.eq_1 := id @f33r3.eq_1
def f33b4 : AQ := (.seq (.region f33r3) .ret)
theorem uf33b4 (P ts os Q) : awl P f33b4 Q ts os = awl P (.seq (.region f33r3) .ret) Q ts os := id rfl
def f33r5 : List AI := [⟨none, (.mov 2 (.v (.k (.c (.int .i64 0)))))⟩, ⟨none, (.mov 3 (.v (.k (.c (.bool true)))))⟩]
theorem uf33r5 : type_of% @f33r5.eq_1 := id @f33r5.eq_1
def f33b6 : AQ := (.seq (.region f33r5) .ret)
theorem uf33b6 (P ts os Q) : awl P f33b6 Q ts os = awl P (.seq (.region f33r5) .ret) Q ts os := id rfl
def f33b7 : AQ := (.cond (.t 11) f33b6 .skip)
theorem uf33b7 (P ts os Q) : awl P f33b7 Q ts os = awl P (.cond (.t 11) f33b6 .skip) Q ts os := id rfl
def f33r8 : List AI := [⟨none, (.mov 12 (.t 0))⟩, ⟨none, (.bin 13 .lss (.t 12) (.v (.k (.c (.int .i64 7)))))⟩, ⟨none, (.mov 11 (.t 13))⟩]
theorem uf33r8 : type_of% @f33r8.eq_1 := id @f33r8.eq_1
def f33b9 : AQ := (.seq (.region f33r8) f33b7)
theorem uf33b9 (P ts os Q) : awl P f33b9 Q ts os = awl P (.seq (.region f33r8) f33b7) Q ts os := id rfl
def f33b10 : AQ := (.cond (.t 4) f33b4 f33b9)
theorem uf33b10 (P ts os Q) : awl P f33b10 Q ts os = awl P (.cond (.t 4) f33b4 f33b9) Q ts os := id rfl
def f33r11 : List AI := [⟨none, (.mov 5 (.t 0))⟩, ⟨none, (.bin 6 .lss (.t 5) (.v (.k (.c (.int .i64 0)))))⟩, ⟨none, (.mov 7 (.t 6))⟩, ⟨(some (7, false)), (.mov 8 (.t 0))⟩, ⟨(some (7, false)), (.bin 9 .gtr (.t 8) (.v (.k (.c (.int .i64 19)))))⟩, ⟨none, (.pick 10 (.t 7) (.v (.k (.c (.bool true)))) (.t 9))⟩, ⟨none, (.mov 4 (.t 10))⟩]
theorem uf33r11 : type_of% @f33r11.eq_1 := id @f33r11.eq_1
def f33b12 : AQ := (.seq (.region f33r11) f33b10)
theorem uf33b12 (P ts os Q) : awl P f33b12 Q ts os = awl P (.seq (.region f33r11) f33b10) Q ts os := id rfl
def f33b13 : AQ := (.block 0 f33b12)
theorem uf33b13 (P ts os Q) : awl P f33b13 Q ts os = awl P (.block 0 f33b12) Q ts os := id rfl
def f33b14 : AQ := (.seq f33b13 f33b2)
theorem uf33b14 (P ts os Q) : awl P f33b14 Q ts os = awl P (.seq f33b13 f33b2) Q ts os := id rfl
def f33r15 : List AI := [⟨none, (.mov 2 (.v (.k (.c (.int .i64 0)))))⟩, ⟨none, (.mov 3 (.v (.k (.c (.bool false)))))⟩]
theorem uf33r15 : type_of% @f33r15.eq_1 := id @f33r15.eq_1
def f33b16 : AQ := (.seq (.region f33r15) f33b14)
theorem uf33b16 (P ts os Q) : awl P f33b16 Q ts os = awl P (.seq (.region f33r15) f33b14) Q ts os := id rfl
def f33 : AQ := f33b16
theorem uf33 (P ts os Q) : awl P f33 Q ts os = awl P f33b16 Q ts os := id rfl
theorem hf33 : cFunc Try.prog 33 = some ⟨14, f33.erase, [(RX.t 2), (RX.t 3)]⟩ := by kernel_rfl
theorem okf33 : f33.ok = true := by kernel_rfl
def f35r1 : List AI := [⟨none, (.load 20 1 false (.t 5))⟩, ⟨none, (.call (some 21) 50 [(.t 20)])⟩, ⟨none, (.mov 2 (.t 21))⟩]
theorem uf35r1 : type_of% @f35r1.eq_1 := id @f35r1.eq_1
def f35b2 : AQ := (.seq (.region f35r1) .ret)
theorem uf35b2 (P ts os Q) : awl P f35b2 Q ts os = awl P (.seq (.region f35r1) .ret) Q ts os := id rfl
def f35r3 : List AI := [⟨none, (.load 18 1 false (.t 5))⟩, ⟨none, (.call (some 19) 49 [(.t 18)])⟩]
theorem uf35r3 : type_of% @f35r3.eq_1 := id @f35r3.eq_1
def f35b4 : AQ := (.seq (.region f35r3) f35b2)
theorem uf35b4 (P ts os Q) : awl P f35b4 Q ts os = awl P (.seq (.region f35r3) f35b2) Q ts os := id rfl
def f35r5 : List AI := [⟨none, (.load 15 1 false (.t 6))⟩, ⟨none, (.load 16 3 true (.t 1))⟩, ⟨none, (.callv (some 17) (.t 15) [(.t 16)])⟩]
theorem uf35r5 : type_of% @f35r5.eq_1 := id @f35r5.eq_1
def f35b6 : AQ := (.swap 6 1006 (.swap 5 1005 (.seq (.region f35r5) f35b4)))
theorem uf35b6 (P ts os Q) : awl P f35b6 Q ts os = awl P (.swap 6 1006 (.swap 5 1005 (.seq (.region f35r5) f35b4))) Q ts os := id rfl
def f35r7 : List AI := [⟨none, (.mkfn 14 62 [(.t 5), (.t 6)])⟩, ⟨none, (.store 1 (.t 6) (.t 14))⟩]
theorem uf35r7 : type_of% @f35r7.eq_1 := id @f35r7.eq_1
def f35b8 : AQ := (.seq (.region f35r7) f35b6)
theorem uf35b8 (P ts os Q) : awl P f35b8 Q ts os = awl P (.seq (.region f35r7) f35b6) Q ts os := id rfl
def f35r9 : List AI := [⟨none, (.alloc 6 80 [.nilf])⟩]
theorem uf35r9 : type_of% @f35r9.eq_1 := id @f35r9.eq_1
def f35b10 : AQ := (.seq (.region f35r9) f35b8)
theorem uf35b10 (P ts os Q) : awl P f35b10 Q ts os = awl P (.seq (.region f35r9) f35b8) Q ts os := id rfl
def f35r11 : List AI := [⟨none, (.alloc 5 36 [(.list 0 (some true) [])])⟩]
theorem uf35r11 : type_of% @f35r11.eq_1 := id @f35r11.eq_1
def f35b12 : AQ := (.seq (.region f35r11) (.own 5 1000 3 1 f35b10))
theorem uf35b12 (P ts os Q) : awl P f35b12 Q ts os = awl P (.seq (.region f35r11) (.own 5 1000 3 1 f35b10)) Q ts os := id rfl
def f35r13 : List AI := [⟨none, (.nilL 2 3 1)⟩]
theorem uf35r13 : type_of% @f35r13.eq_1 := id @f35r13.eq_1
def f35b14 : AQ := (.seq (.region f35r13) .ret)
theorem uf35b14 (P ts os Q) : awl P f35b14 Q ts os = awl P (.seq (.region f35r13) .ret) Q ts os := id rfl
def f35b15 : AQ := (.cond (.t 13) f35b14 .skip)
theorem uf35b15 (P ts os Q) : awl P f35b15 Q ts os = awl P (.cond (.t 13) f35b14 .skip) Q ts os := id rfl
def f35r16 : List AI := [⟨none, (.mov 12 (.t 4))⟩, ⟨none, (.bin 13 .neq (.t 12) (.v (.k (.c (.int .i64 0)))))⟩]
theorem uf35r16 : type_of% @f35r16.eq_1 := id @f35r16.eq_1
def f35b17 : AQ := (.seq (.region f35r16) f35b15)
theorem uf35b17 (P ts os Q) : awl P f35b17 Q ts os = awl P (.seq (.region f35r16) f35b15) Q ts os := id rfl
def f35r18 : List AI := [⟨none, (.load 8 3 true (.t 1))⟩, ⟨none, (.call (some 9) 31 [(.t 8)])⟩, ⟨none, (.mov 7 (.t 9))⟩, ⟨none, (.extr 10 (.t 7) 0)⟩, ⟨none, (.extr 11 (.t 7) 1)⟩, ⟨none, (.mov 3 (.t 10))⟩, ⟨none, (.mov 4 (.t 11))⟩]
theorem uf35r18 : type_of% @f35r18.eq_1 := id @f35r18.eq_1
def f35b19 : AQ := (.seq (.region f35r18) f35b17)
theorem uf35b19 (P ts os Q) : awl P f35b19 Q ts os = awl P (.seq (.region f35r18) f35b17) Q ts os := id rfl
def f35b20 : AQ := (.seq f35b19 f35b12)
theorem uf35b20 (P ts os Q) : awl P f35b20 Q ts os = awl P (.seq f35b19 f35b12) Q ts os := id rfl
def f35r21 : List AI := [⟨none, (.box 1 41 (.t 0))⟩, ⟨none, (.nilL 2 3 1)⟩]
theorem uf35r21 : type_of% @f35r21.eq_1 := id @f35r21.eq_1
def f35b22 : AQ := (.seq (.region f35r21) f35b20)
theorem uf35b22 (P ts os Q) : awl P f35b22 Q ts os = awl P (.seq (.region f35r21) f35b20) Q ts os := id rfl
def f35 : AQ := f35b22
theorem uf35 (P ts os Q) : awl P f35 Q ts os = awl P f35b22 Q ts os := id rfl
theorem hf35 : cFunc Try.prog 35 = some ⟨22, f35.erase, [(RX.t 2)]⟩ := by kernel_rfl
theorem okf35 : f35.ok = true := by kernel_rfl
def f44r1 : List AI := [⟨none, (.load 20 22 true (.t 1))⟩, ⟨none, (.store 22 (.t 0) (.t 20))⟩]
theorem uf44r1 : type_of% @f44r1.eq_1 := id @f44r1.eq_1
def f44b2 : AQ := (.seq (.region f44r1) .ret)
theorem uf44b2 (P ts os Q) : awl P f44b2 Q ts os = awl P (.seq (.region f44r1) .ret) Q ts os := id rfl
def f44r3 : List AI := [⟨none, (.bin 19 .add (.t 13) (.v (.k (.c (.int .i64 1)))))⟩, ⟨none, (.mov 13 (.t 19))⟩]
theorem uf44r3 : type_of% @f44r3.eq_1 := id @f44r3.eq_1
def f44r4 : List AI := [⟨none, (.mov 17 (.t 4))⟩, ⟨none, (.iaddrA 18 1 22 (.t 1) (.t 17))⟩, ⟨none, (.store 1 (.t 18) (.v (.k (.c (.int .i64 0)))))⟩]
theorem uf44r4 : type_of% @f44r4.eq_1 := id @f44r4.eq_1
def f44r5 : List AI := [⟨none, (.iaddr 15 1 (.t 11) (.t 13))⟩, ⟨none, (.load 16 1 false (.t 15))⟩, ⟨none, (.mov 4 (.t 16))⟩]
theorem uf44r5 : type_of% @f44r5.eq_1 := id @f44r5.eq_1
def f44b6 : AQ := (.seq (.region f44r5) (.region f44r4))
theorem uf44b6 (P ts os Q) : awl P f44b6 Q ts os = awl P (.seq (.region f44r5) (.region f44r4)) Q ts os := id rfl
def f44b7 : AQ := (.block 3 f44b6)
theorem uf44b7 (P ts os Q) : awl P f44b7 Q ts os = awl P (.block 3 f44b6) Q ts os := id rfl
def f44b8 : AQ := (.seq f44b7 (.region f44r3))
theorem uf44b8 (P ts os Q) : awl P f44b8 Q ts os = awl P (.seq f44b7 (.region f44r3)) Q ts os := id rfl
def f44b9 : AQ := (.cond (.t 14) .skip (.exit 2))
theorem uf44b9 (P ts os Q) : awl P f44b9 Q ts os = awl P (.cond (.t 14) .skip (.exit 2)) Q ts os := id rfl
def f44b10 : AQ := (.seq f44b9 f44b8)
theorem uf44b10 (P ts os Q) : awl P f44b10 Q ts os = awl P (.seq f44b9 f44b8) Q ts os := id rfl
def f44r11 : List AI := [⟨none, (.bin 14 .lss (.t 13) (.t 12))⟩]
theorem uf44r11 : type_of% @f44r11.eq_1 := id @f44r11.eq_1
def f44b12 : AQ := (.seq (.region f44r11) f44b10)
theorem uf44b12 (P ts os Q) : awl P f44b12 Q ts os = awl P (.seq (.region f44r11) f44b10) Q ts os := id rfl
def f44l13 : AQ := .loop [0, 1, 11, 12, 13] [0, 1, 11] f44b12
theorem uf44l13 (P ts os Q) : awl P f44l13 Q ts os = awl P (.loop [0, 1, 11, 12, 13] [0, 1, 11] f44b12) Q ts os := id rfl
def f44b14 : AQ := (.block 2 f44l13)
theorem uf44b14 (P ts os Q) : awl P f44b14 Q ts os = awl P (.block 2 f44l13) Q ts os := id rfl
def f44r15 : List AI := [⟨none, (.bslice 11 3 1 [(.int .i64 0)] 10 [(0, (.v (.k (.c (.int .i64 6))))), (1, (.v (.k (.c (.int .i64 7))))), (2, (.v (.k (.c (.int .i64 10))))), (3, (.v (.k (.c (.int .i64 12))))), (4, (.v (.k (.c (.int .i64 13))))), (5, (.v (.k (.c (.int .i64 14))))), (6, (.v (.k (.c (.int .i64 15))))), (7, (.v (.k (.c (.int .i64 16))))), (8, (.v (.k (.c (.int .i64 20))))), (9, (.v (.k (.c (.int .i64 21)))))])⟩, ⟨none, (.len 12 (.t 11))⟩, ⟨none, (.mov 13 (.v (.k (.c (.int .i64 0)))))⟩]
theorem uf44r15 : type_of% @f44r15.eq_1 := id @f44r15.eq_1
def f44b16 : AQ := (.seq (.region f44r15) f44b14)
theorem uf44b16 (P ts os Q) : awl P f44b16 Q ts os = awl P (.seq (.region f44r15) f44b14) Q ts os := id rfl
def f44b17 : AQ := (.seq f44b16 f44b2)
theorem uf44b17 (P ts os Q) : awl P f44b17 Q ts os = awl P (.seq f44b16 f44b2) Q ts os := id rfl
def f44r18 : List AI := [⟨none, (.bin 10 .add (.t 5) (.v (.k (.c (.int .i64 1)))))⟩, ⟨none, (.mov 5 (.t 10))⟩]
theorem uf44r18 : type_of% @f44r18.eq_1 := id @f44r18.eq_1
def f44r19 : List AI := [⟨none, (.mov 8 (.t 2))⟩, ⟨none, (.iaddrA 9 1 22 (.t 1) (.t 8))⟩, ⟨none, (.store 1 (.t 9) (.v (.k (.c (.int .i64 1)))))⟩]
theorem uf44r19 : type_of% @f44r19.eq_1 := id @f44r19.eq_1
def f44r20 : List AI := [⟨none, (.mov 7 (.t 5))⟩, ⟨none, (.mov 2 (.t 7))⟩]
theorem uf44r20 : type_of% @f44r20.eq_1 := id @f44r20.eq_1
def f44b21 : AQ := (.seq (.region f44r20) (.region f44r19))
theorem uf44b21 (P ts os Q) : awl P f44b21 Q ts os = awl P (.seq (.region f44r20) (.region f44r19)) Q ts os := id rfl
def f44b22 : AQ := (.block 1 f44b21)
theorem uf44b22 (P ts os Q) : awl P f44b22 Q ts os = awl P (.block 1 f44b21) Q ts os := id rfl
def f44b23 : AQ := (.seq f44b22 (.region f44r18))
theorem uf44b23 (P ts os Q) : awl P f44b23 Q ts os = awl P (.seq f44b22 (.region f44r18)) Q ts os := id rfl
def f44b24 : AQ := (.cond (.t 6) .skip (.exit 0))
theorem uf44b24 (P ts os Q) : awl P f44b24 Q ts os = awl P (.cond (.t 6) .skip (.exit 0)) Q ts os := id rfl
def f44b25 : AQ := (.seq f44b24 f44b23)
theorem uf44b25 (P ts os Q) : awl P f44b25 Q ts os = awl P (.seq f44b24 f44b23) Q ts os := id rfl
def f44r26 : List AI := [⟨none, (.bin 6 .lss (.t 5) (.v (.k (.c (.int .i64 22)))))⟩]
theorem uf44r26 : type_of% @f44r26.eq_1 := id @f44r26.eq_1
def f44b27 : AQ := (.seq (.region f44r26) f44b25)
theorem uf44b27 (P ts os Q) : awl P f44b27 Q ts os = awl P (.seq (.region f44r26) f44b25) Q ts os := id rfl
def f44l28 : AQ := .loop [0, 1, 5] [0, 1] f44b27
theorem uf44l28 (P ts os Q) : awl P f44l28 Q ts os = awl P (.loop [0, 1, 5] [0, 1] f44b27) Q ts os := id rfl
def f44b29 : AQ := (.block 0 f44l28)
theorem uf44b29 (P ts os Q) : awl P f44b29 Q ts os = awl P (.block 0 f44l28) Q ts os := id rfl
def f44r30 : List AI := [⟨none, (.mov 5 (.v (.k (.c (.int .i64 0)))))⟩]
theorem uf44r30 : type_of% @f44r30.eq_1 := id @f44r30.eq_1
def f44b31 : AQ := (.seq (.region f44r30) f44b29)
theorem uf44b31 (P ts os Q) : awl P f44b31 Q ts os = awl P (.seq (.region f44r30) f44b29) Q ts os := id rfl
def f44b32 : AQ := (.seq f44b31 f44b17)
theorem uf44b32 (P ts os Q) : awl P f44b32 Q ts os = awl P (.seq f44b31 f44b17) Q ts os := id rfl
def f44r33 : List AI := [⟨none, (.alloc 1 65 [(.int .i64 0), (.int .i64 0), (.int .i64 0), (.int .i64 0), (.int .i64 0), (.int .i64 0), (.int .i64 0), (.int .i64 0), (.int .i64 0), (.int .i64 0), (.int .i64 0), (.int .i64 0), (.int .i64 0), (.int .i64 0), (.int .i64 0), (.int .i64 0), (.int .i64 0), (.int .i64 0), (.int .i64 0), (.int .i64 0), (.int .i64 0), (.int .i64 0)])⟩]
theorem uf44r33 : type_of% @f44r33.eq_1 := id @f44r33.eq_1
def f44b34 : AQ := (.seq (.region f44r33) f44b32)
theorem uf44b34 (P ts os Q) : awl P f44b34 Q ts os = awl P (.seq (.region f44r33) f44b32) Q ts os := id rfl
def f44r35 : List AI := [⟨none, (.alloc 0 65 [(.int .i64 0), (.int .i64 0), (.int .i64 0), (.int .i64 0), (.int .i64 0), (.int .i64 0), (.int .i64 0), (.int .i64 0), (.int .i64 0), (.int .i64 0), (.int .i64 0), (.int .i64 0), (.int .i64 0), (.int .i64 0), (.int .i64 0), (.int .i64 0), (.int .i64 0), (.int .i64 0), (.int .i64 0), (.int .i64 0), (.int .i64 0), (.int .i64 0)])⟩]
theorem uf44r35 : type_of% @f44r35.eq_1 := id @f44r35.eq_1
def f44b36 : AQ := (.seq (.region f44r35) f44b34)
theorem uf44b36 (P ts os Q) : awl P f44b36 Q ts os = awl P (.seq (.region f44r35) f44b34) Q ts os := id rfl
def f44 : AQ := f44b36
theorem uf44 (P ts os Q) : awl P f44 Q ts os = awl P f44b36 Q ts os := id rfl
theorem hf44 : cFunc Try.prog 44 = some ⟨21, f44.erase, [(RX.cell 0 22 true)]⟩ := by kernel_rfl
theorem okf44 : f44.ok = true := by kernel_rfl
def f45r1 : List AI := [⟨none, (.mov 5 (.t 1))⟩, ⟨none, (.mov 6 (.t 0))⟩, ⟨none, (.bin 7 .gtr (.t 5) (.t 6))⟩, ⟨none, (.mov 8 (.t 7))⟩, ⟨(some (8, true)), (.mov 9 (.t 1))⟩, ⟨(some (8, true)), (.bin 10 .lss (.t 9) (.v (.k (.c (.int .i64 22)))))⟩, ⟨none, (.pick 11 (.t 8) (.t 10) (.v (.k (.c (.bool false)))))⟩, ⟨none, (.mov 4 (.t 11))⟩]
theorem uf45r1 : type_of% @f45r1.eq_1 := id @f45r1.eq_1
def f45b2 : AQ := (.seq (.region f45r1) .ret)
theorem uf45b2 (P ts os Q) : awl P f45b2 Q ts os = awl P (.seq (.region f45r1) .ret) Q ts os := id rfl
def f45r3 : List AI := [⟨none, (.mov 4 (.v (.k (.c (.bool false)))))⟩]
theorem uf45r3 : type_of% @f45r3.eq_1 := id @f45r3.eq_1
def f45b4 : AQ := (.seq (.region f45r3) f45b2)
theorem uf45b4 (P ts os Q) : awl P f45b4 Q ts os = awl P (.seq (.region f45r3) f45b2) Q ts os := id rfl
def f45 : AQ := f45b4
theorem uf45 (P ts os Q) : awl P f45 Q ts os = awl P f45b4 Q ts os := id rfl
theorem hf45 : cFunc Try.prog 45 = some ⟨12, f45.erase, [(RX.t 4)]⟩ := by kernel_rfl
theorem okf45 : f45.ok = true := by kernel_rfl
def f46r1 : List AI := [⟨none, (.mov 5 (.t 0))⟩, ⟨none, (.mov 6 (.t 1))⟩, ⟨none, (.call (some 7) 67 [(.t 5), (.t 6)])⟩, ⟨none, (.bin 8 .geq (.t 7) (.v (.k (.c (.int .i64 0)))))⟩, ⟨none, (.mov 4 (.t 8))⟩]
theorem uf46r1 : type_of% @f46r1.eq_1 := id @f46r1.eq_1
def f46b2 : AQ := (.seq (.region f46r1) .ret)
theorem uf46b2 (P ts os Q) : awl P f46b2 Q ts os = awl P (.seq (.region f46r1) .ret) Q ts os := id rfl
def f46r3 : List AI := [⟨none, (.mov 4 (.v (.k (.c (.bool false)))))⟩]
theorem uf46r3 : type_of% @f46r3.eq_1 := id @f46r3.eq_1
def f46b4 : AQ := (.seq (.region f46r3) f46b2)
theorem uf46b4 (P ts os Q) : awl P f46b4 Q ts os = awl P (.seq (.region f46r3) f46b2) Q ts os := id rfl
def f46 : AQ := f46b4
theorem uf46 (P ts os Q) : awl P f46 Q ts os = awl P f46b4 Q ts os := id rfl
theorem hf46 : cFunc Try.prog 46 = some ⟨9, f46.erase, [(RX.t 4)]⟩ := by kernel_rfl
theorem okf46 : f46.ok = true := by kernel_rfl
def f47r1 : List AI := [⟨none, (.faddr 4 0 (.t 2))⟩, ⟨none, (.load 5 1 false (.t 4))⟩, ⟨none, (.load 6 1 false (.t 1))⟩, ⟨none, (.bin 7 .eql (.t 5) (.t 6))⟩, ⟨none, (.mov 3 (.t 7))⟩]
theorem uf47r1 : type_of% @f47r1.eq_1 := id @f47r1.eq_1
def f47b2 : AQ := (.seq (.region f47r1) .ret)
theorem uf47b2 (P ts os Q) : awl P f47b2 Q ts os = awl P (.seq (.region f47r1) .ret) Q ts os := id rfl
def f47r3 : List AI := [⟨none, (.box 2 43 (.t 0))⟩, ⟨none, (.mov 3 (.v (.k (.c (.bool false)))))⟩]
theorem uf47r3 : type_of% @f47r3.eq_1 := id @f47r3.eq_1
def f47b4 : AQ := (.seq (.region f47r3) f47b2)
theorem uf47b4 (P ts os Q) : awl P f47b4 Q ts os = awl P (.seq (.region f47r3) f47b2) Q ts os := id rfl
def f47 : AQ := f47b4
theorem uf47 (P ts os Q) : awl P f47 Q ts os = awl P f47b4 Q ts os := id rfl
theorem hf47 : cFunc Try.prog 47 = some ⟨8, f47.erase, [(RX.t 3)]⟩ := by kernel_rfl
theorem okf47 : f47.ok = true := by kernel_rfl
def f52r1 : List AI := [⟨none, (.mov 5 (.t 0))⟩, ⟨none, (.mov 6 (.t 1))⟩, ⟨none, (.call (some 7) 70 [(.t 5), (.t 6)])⟩, ⟨none, (.bin 8 .geq (.t 7) (.v (.k (.c (.int .i64 0)))))⟩, ⟨none, (.mov 4 (.t 8))⟩]
theorem uf52r1 : type_of% @f52r1.eq_1 := id @f52r1.eq_1
def f52b2 : AQ := (.seq (.region f52r1) .ret)
theorem uf52b2 (P ts os Q) : awl P f52b2 Q ts os = awl P (.seq (.region f52r1) .ret) Q ts os := id rfl
def f52r3 : List AI := [⟨none, (.mov 4 (.v (.k (.c (.bool false)))))⟩]
theorem uf52r3 : type_of% @f52r3.eq_1 := id @f52r3.eq_1
def f52b4 : AQ := (.seq (.region f52r3) f52b2)
theorem uf52b4 (P ts os Q) : awl P f52b4 Q ts os = awl P (.seq (.region f52r3) f52b2) Q ts os := id rfl
def f52 : AQ := f52b4
theorem uf52 (P ts os Q) : awl P f52 Q ts os = awl P f52b4 Q ts os := id rfl
theorem hf52 : cFunc Try.prog 52 = some ⟨9, f52.erase, [(RX.t 4)]⟩ := by kernel_rfl
theorem okf52 : f52.ok = true := by kernel_rfl
def f53r1 : List AI := [⟨none, (.mov 3 (.t 0))⟩, ⟨none, (.bin 4 .geq (.t 3) (.v (.k (.c (.int .i64 15)))))⟩, ⟨none, (.mov 2 (.t 4))⟩]
theorem uf53r1 : type_of% @f53r1.eq_1 := id @f53r1.eq_1
def f53b2 : AQ := (.seq (.region f53r1) .ret)
theorem uf53b2 (P ts os Q) : awl P f53b2 Q ts os = awl P (.seq (.region f53r1) .ret) Q ts os := id rfl
def f53r3 : List AI := [⟨none, (.mov 2 (.v (.k (.c (.bool false)))))⟩]
theorem uf53r3 : type_of% @f53r3.eq_1 := id @f53r3.eq_1
def f53b4 : AQ := (.seq (.region f53r3) f53b2)
theorem uf53b4 (P ts os Q) : awl P f53b4 Q ts os = awl P (.seq (.region f53r3) f53b2) Q ts os := id rfl
def f53 : AQ := f53b4
theorem uf53 (P ts os Q) : awl P f53 Q ts os = awl P f53b4 Q ts os := id rfl
theorem hf53 : cFunc Try.prog 53 = some ⟨5, f53.erase, [(RX.t 2)]⟩ := by kernel_rfl
theorem okf53 : f53.ok = true := by kernel_rfl
def f58r1 : List AI := [⟨none, (.mov 32 (.t 1))⟩, ⟨none, (.mov 6 (.t 32))⟩]
theorem uf58r1 : type_of% @f58r1.eq_1 := id @f58r1.eq_1
def f58b2 : AQ := (.seq (.region f58r1) .ret)
theorem uf58b2 (P ts os Q) : awl P f58b2 Q ts os = awl P (.seq (.region f58r1) .ret) Q ts os := id rfl
def f58r3 : List AI := [⟨none, (.mov 21 (.t 7))⟩, ⟨none, (.bin 22 .add (.t 21) (.v (.k (.c (.int .i64 1)))))⟩, ⟨none, (.mov 7 (.t 22))⟩]
theorem uf58r3 : type_of% @f58r3.eq_1 := id @f58r3.eq_1
def f58r4 : List AI := [⟨none, (.faddr 23 2 (.t 3))⟩, ⟨none, (.load 24 1 false (.t 23))⟩, ⟨none, (.mov 25 (.t 7))⟩, ⟨none, (.iaddr 26 3 (.t 24) (.t 25))⟩, ⟨none, (.load 27 3 true (.t 26))⟩, ⟨none, (.mov 28 (.t 1))⟩, ⟨none, (.mov 29 (.t 2))⟩, ⟨none, (.bin 30 .sub (.t 29) (.v (.k (.c (.int .i64 1)))))⟩, ⟨none, (.call (some 31) 58 [(.t 27), (.t 28), (.t 30)])⟩, ⟨none, (.mov 1 (.t 31))⟩]
theorem uf58r4 : type_of% @f58r4.eq_1 := id @f58r4.eq_1
def f58b5 : AQ := (.block 1 (.region f58r4))
theorem uf58b5 (P ts os Q) : awl P f58b5 Q ts os = awl P (.block 1 (.region f58r4)) Q ts os := id rfl
def f58b6 : AQ := (.seq f58b5 (.region f58r3))
theorem uf58b6 (P ts os Q) : awl P f58b6 Q ts os = awl P (.seq f58b5 (.region f58r3)) Q ts os := id rfl
def f58b7 : AQ := (.cond (.t 20) .skip (.exit 0))
theorem uf58b7 (P ts os Q) : awl P f58b7 Q ts os = awl P (.cond (.t 20) .skip (.exit 0)) Q ts os := id rfl
def f58r8 : List AI := [⟨none, (.mov 12 (.t 7))⟩, ⟨none, (.faddr 13 2 (.t 3))⟩, ⟨none, (.load 14 1 false (.t 13))⟩, ⟨none, (.len 15 (.t 14))⟩, ⟨none, (.bin 16 .lss (.t 12) (.t 15))⟩, ⟨none, (.mov 17 (.t 16))⟩, ⟨(some (17, true)), (.mov 18 (.t 1))⟩, ⟨(some (17, true)), (.bin 19 .geq (.t 18) (.v (.k (.c (.int .i64 0)))))⟩, ⟨none, (.pick 20 (.t 17) (.t 19) (.v (.k (.c (.bool false)))))⟩]
theorem uf58r8 : type_of% @f58r8.eq_1 := id @f58r8.eq_1
def f58b9 : AQ := (.seq (.region f58r8) f58b7)
theorem uf58b9 (P ts os Q) : awl P f58b9 Q ts os = awl P (.seq (.region f58r8) f58b7) Q ts os := id rfl
def f58b10 : AQ := (.seq f58b9 f58b6)
theorem uf58b10 (P ts os Q) : awl P f58b10 Q ts os = awl P (.seq f58b9 f58b6) Q ts os := id rfl
def f58l11 : AQ := .loop [1, 2, 3, 7] [3] f58b10
theorem uf58l11 (P ts os Q) : awl P f58l11 Q ts os = awl P (.loop [1, 2, 3, 7] [3] f58b10) Q ts os := id rfl
def f58b12 : AQ := (.block 0 f58l11)
theorem uf58b12 (P ts os Q) : awl P f58b12 Q ts os = awl P (.block 0 f58l11) Q ts os := id rfl
def f58r13 : List AI := [⟨none, (.mov 7 (.v (.k (.c (.int .i64 0)))))⟩]
theorem uf58r13 : type_of% @f58r13.eq_1 := id @f58r13.eq_1
def f58b14 : AQ := (.seq (.region f58r13) f58b12)
theorem uf58b14 (P ts os Q) : awl P f58b14 Q ts os = awl P (.seq (.region f58r13) f58b12) Q ts os := id rfl
def f58b15 : AQ := (.seq f58b14 f58b2)
theorem uf58b15 (P ts os Q) : awl P f58b15 Q ts os = awl P (.seq f58b14 f58b2) Q ts os := id rfl
def f58r16 : List AI := [⟨none, (.mov 6 (.v (.k (.c (.int .i64 (-1))))))⟩]
theorem uf58r16 : type_of% @f58r16.eq_1 := id @f58r16.eq_1
def f58b17 : AQ := (.seq (.region f58r16) .ret)
theorem uf58b17 (P ts os Q) : awl P f58b17 Q ts os = awl P (.seq (.region f58r16) .ret) Q ts os := id rfl
def f58b18 : AQ := (.cond (.t 11) f58b17 .skip)
theorem uf58b18 (P ts os Q) : awl P f58b18 Q ts os = awl P (.cond (.t 11) f58b17 .skip) Q ts os := id rfl
def f58r19 : List AI := [⟨none, (.mov 10 (.t 2))⟩, ⟨none, (.bin 11 .lss (.t 10) (.v (.k (.c (.int .i64 1)))))⟩]
theorem uf58r19 : type_of% @f58r19.eq_1 := id @f58r19.eq_1
def f58b20 : AQ := (.seq (.region f58r19) f58b18)
theorem uf58b20 (P ts os Q) : awl P f58b20 Q ts os = awl P (.seq (.region f58r19) f58b18) Q ts os := id rfl
def f58b21 : AQ := (.seq f58b20 f58b15)
theorem uf58b21 (P ts os Q) : awl P f58b21 Q ts os = awl P (.seq f58b20 f58b15) Q ts os := id rfl
def f58r22 : List AI := [⟨none, (.mov 8 (.t 1))⟩, ⟨none, (.bin 9 .sub (.t 8) (.v (.k (.c (.int .i64 1)))))⟩, ⟨none, (.mov 1 (.t 9))⟩]
theorem uf58r22 : type_of% @f58r22.eq_1 := id @f58r22.eq_1
def f58b23 : AQ := (.seq (.region f58r22) f58b21)
theorem uf58b23 (P ts os Q) : awl P f58b23 Q ts os = awl P (.seq (.region f58r22) f58b21) Q ts os := id rfl
def f58r24 : List AI := [⟨none, (.box 3 41 (.t 0))⟩, ⟨none, (.mov 6 (.v (.k (.c (.int .i64 0)))))⟩]
theorem uf58r24 : type_of% @f58r24.eq_1 := id @f58r24.eq_1
def f58b25 : AQ := (.seq (.region f58r24) f58b23)
theorem uf58b25 (P ts os Q) : awl P f58b25 Q ts os = awl P (.seq (.region f58r24) f58b23) Q ts os := id rfl
def f58 : AQ := f58b25
theorem uf58 (P ts os Q) : awl P f58 Q ts os = awl P f58b25 Q ts os := id rfl
theorem hf58 : cFunc Try.prog 58 = some ⟨33, f58.erase, [(RX.t 6)]⟩ := by kernel_rfl
theorem okf58 : f58.ok = true := by kernel_rfl
def f59r1 : List AI := [⟨none, (.mov 26 (.t 5))⟩, ⟨none, (.mov 4 (.t 26))⟩]
theorem uf59r1 : type_of% @f59r1.eq_1 := id @f59r1.eq_1
def f59b2 : AQ := (.seq (.region f59r1) .ret)
theorem uf59b2 (P ts os Q) : awl P f59b2 Q ts os = awl P (.seq (.region f59r1) .ret) Q ts os := id rfl
def f59r3 : List AI := [⟨none, (.bin 25 .add (.t 13) (.v (.k (.c (.int .i64 1)))))⟩, ⟨none, (.mov 13 (.t 25))⟩]
theorem uf59r3 : type_of% @f59r3.eq_1 := id @f59r3.eq_1
def f59b4 : AQ := (.cond (.t 24) (.exit 0) .skip)
theorem uf59b4 (P ts os Q) : awl P f59b4 Q ts os = awl P (.cond (.t 24) (.exit 0) .skip) Q ts os := id rfl
def f59r5 : List AI := [⟨none, (.mov 23 (.t 5))⟩, ⟨none, (.bin 24 .gtr (.t 23) (.v (.k (.c (.int .i64 60)))))⟩]
theorem uf59r5 : type_of% @f59r5.eq_1 := id @f59r5.eq_1
def f59b6 : AQ := (.seq (.region f59r5) f59b4)
theorem uf59b6 (P ts os Q) : awl P f59b6 Q ts os = awl P (.seq (.region f59r5) f59b4) Q ts os := id rfl
def f59r7 : List AI := [⟨none, (.mov 17 (.t 5))⟩, ⟨none, (.load 18 3 true (.t 7))⟩, ⟨none, (.mov 19 (.t 1))⟩, ⟨none, (.bin 20 .add (.t 19) (.v (.k (.c (.int .i64 1)))))⟩, ⟨none, (.call (some 21) 59 [(.t 18), (.t 20)])⟩, ⟨none, (.bin 22 .add (.t 17) (.t 21))⟩, ⟨none, (.mov 5 (.t 22))⟩]
theorem uf59r7 : type_of% @f59r7.eq_1 := id @f59r7.eq_1
def f59b8 : AQ := (.seq (.region f59r7) f59b6)
theorem uf59b8 (P ts os Q) : awl P f59b8 Q ts os = awl P (.seq (.region f59r7) f59b6) Q ts os := id rfl
def f59r9 : List AI := [⟨none, (.iaddr 15 3 (.t 11) (.t 13))⟩, ⟨none, (.load 16 3 true (.t 15))⟩, ⟨none, (.alloc 7 41 [(.int .i64 0), (.int .i64 0), (.list 0 (some true) [])])⟩, ⟨none, (.store 3 (.t 7) (.t 16))⟩]
theorem uf59r9 : type_of% @f59r9.eq_1 := id @f59r9.eq_1
def f59b10 : AQ := (.seq (.region f59r9) f59b8)
theorem uf59b10 (P ts os Q) : awl P f59b10 Q ts os = awl P (.seq (.region f59r9) f59b8) Q ts os := id rfl
def f59b11 : AQ := (.block 1 f59b10)
theorem uf59b11 (P ts os Q) : awl P f59b11 Q ts os = awl P (.block 1 f59b10) Q ts os := id rfl
def f59b12 : AQ := (.seq f59b11 (.region f59r3))
theorem uf59b12 (P ts os Q) : awl P f59b12 Q ts os = awl P (.seq f59b11 (.region f59r3)) Q ts os := id rfl
def f59b13 : AQ := (.cond (.t 14) .skip (.exit 0))
theorem uf59b13 (P ts os Q) : awl P f59b13 Q ts os = awl P (.cond (.t 14) .skip (.exit 0)) Q ts os := id rfl
def f59b14 : AQ := (.seq f59b13 f59b12)
theorem uf59b14 (P ts os Q) : awl P f59b14 Q ts os = awl P (.seq f59b13 f59b12) Q ts os := id rfl
def f59r15 : List AI := [⟨none, (.bin 14 .lss (.t 13) (.t 12))⟩]
theorem uf59r15 : type_of% @f59r15.eq_1 := id @f59r15.eq_1
def f59b16 : AQ := (.seq (.region f59r15) f59b14)
theorem uf59b16 (P ts os Q) : awl P f59b16 Q ts os = awl P (.seq (.region f59r15) f59b14) Q ts os := id rfl
def f59l17 : AQ := .loop [1, 5, 11, 12, 13] [] f59b16
theorem uf59l17 (P ts os Q) : awl P f59l17 Q ts os = awl P (.loop [1, 5, 11, 12, 13] [] f59b16) Q ts os := id rfl
def f59b18 : AQ := (.block 0 f59l17)
theorem uf59b18 (P ts os Q) : awl P f59b18 Q ts os = awl P (.block 0 f59l17) Q ts os := id rfl
def f59r19 : List AI := [⟨none, (.faddr 10 2 (.t 2))⟩, ⟨none, (.load 11 1 false (.t 10))⟩, ⟨none, (.len 12 (.t 11))⟩, ⟨none, (.mov 13 (.v (.k (.c (.int .i64 0)))))⟩]
theorem uf59r19 : type_of% @f59r19.eq_1 := id @f59r19.eq_1
def f59b20 : AQ := (.seq (.region f59r19) f59b18)
theorem uf59b20 (P ts os Q) : awl P f59b20 Q ts os = awl P (.seq (.region f59r19) f59b18) Q ts os := id rfl
def f59b21 : AQ := (.seq f59b20 f59b2)
theorem uf59b21 (P ts os Q) : awl P f59b21 Q ts os = awl P (.seq f59b20 f59b2) Q ts os := id rfl
def f59r22 : List AI := [⟨none, (.mov 5 (.v (.k (.c (.int .i64 1)))))⟩]
theorem uf59r22 : type_of% @f59r22.eq_1 := id @f59r22.eq_1
def f59b23 : AQ := (.seq (.region f59r22) f59b21)
theorem uf59b23 (P ts os Q) : awl P f59b23 Q ts os = awl P (.seq (.region f59r22) f59b21) Q ts os := id rfl
def f59r24 : List AI := [⟨none, (.mov 4 (.v (.k (.c (.int .i64 61)))))⟩]
theorem uf59r24 : type_of% @f59r24.eq_1 := id @f59r24.eq_1
def f59b25 : AQ := (.seq (.region f59r24) .ret)
theorem uf59b25 (P ts os Q) : awl P f59b25 Q ts os = awl P (.seq (.region f59r24) .ret) Q ts os := id rfl
def f59b26 : AQ := (.cond (.t 9) f59b25 .skip)
theorem uf59b26 (P ts os Q) : awl P f59b26 Q ts os = awl P (.cond (.t 9) f59b25 .skip) Q ts os := id rfl
def f59r27 : List AI := [⟨none, (.mov 8 (.t 1))⟩, ⟨none, (.bin 9 .gtr (.t 8) (.v (.k (.c (.int .i64 8)))))⟩]
theorem uf59r27 : type_of% @f59r27.eq_1 := id @f59r27.eq_1
def f59b28 : AQ := (.seq (.region f59r27) f59b26)
theorem uf59b28 (P ts os Q) : awl P f59b28 Q ts os = awl P (.seq (.region f59r27) f59b26) Q ts os := id rfl
def f59b29 : AQ := (.seq f59b28 f59b23)
theorem uf59b29 (P ts os Q) : awl P f59b29 Q ts os = awl P (.seq f59b28 f59b23) Q ts os := id rfl
def f59r30 : List AI := [⟨none, (.box 2 41 (.t 0))⟩, ⟨none, (.mov 4 (.v (.k (.c (.int .i64 0)))))⟩]
theorem uf59r30 : type_of% @f59r30.eq_1 := id @f59r30.eq_1
def f59b31 : AQ := (.seq (.region f59r30) f59b29)
theorem uf59b31 (P ts os Q) : awl P f59b31 Q ts os = awl P (.seq (.region f59r30) f59b29) Q ts os := id rfl
def f59 : AQ := f59b31
theorem uf59 (P ts os Q) : awl P f59 Q ts os = awl P f59b31 Q ts os := id rfl
theorem hf59 : cFunc Try.prog 59 = some ⟨27, f59.erase, [(RX.t 4)]⟩ := by kernel_rfl
theorem okf59 : f59.ok = true := by kernel_rfl
def f60r1 : List AI := [⟨none, (.faddr 111 1 (.t 9))⟩, ⟨none, (.load 112 1 false (.t 111))⟩, ⟨none, (.mov 2 (.t 112))⟩, ⟨none, (.mov 3 (.v (.k (.c (.int .i64 0)))))⟩]
theorem uf60r1 : type_of% @f60r1.eq_1 := id @f60r1.eq_1
def f60b2 : AQ := (.seq (.region f60r1) .ret)
theorem uf60b2 (P ts os Q) : awl P f60b2 Q ts os = awl P (.seq (.region f60r1) .ret) Q ts os := id rfl
def f60r3 : List AI := [⟨none, (.mov 110 (.t 10))⟩, ⟨none, (.mov 2 (.t 110))⟩, ⟨none, (.mov 3 (.v (.k (.c (.int .i64 0)))))⟩]
theorem uf60r3 : type_of% @f60r3.eq_1 := id @f60r3.eq_1
def f60b4 : AQ := (.seq (.region f60r3) .ret)
theorem uf60b4 (P ts os Q) : awl P f60b4 Q ts os = awl P (.seq (.region f60r3) .ret) Q ts os := id rfl
def f60b5 : AQ := (.cond (.t 109) f60b4 .skip)
theorem uf60b5 (P ts os Q) : awl P f60b5 Q ts os = awl P (.cond (.t 109) f60b4 .skip) Q ts os := id rfl
def f60r6 : List AI := [⟨none, (.faddr 107 1 (.t 9))⟩, ⟨none, (.load 108 1 false (.t 107))⟩, ⟨none, (.bin 109 .eql (.t 108) (.v (.k (.c (.int .i64 (-1))))))⟩]
theorem uf60r6 : type_of% @f60r6.eq_1 := id @f60r6.eq_1
def f60b7 : AQ := (.seq (.region f60r6) f60b5)
theorem uf60b7 (P ts os Q) : awl P f60b7 Q ts os = awl P (.seq (.region f60r6) f60b5) Q ts os := id rfl
def f60b8 : AQ := (.seq f60b7 f60b2)
theorem uf60b8 (P ts os Q) : awl P f60b8 Q ts os = awl P (.seq f60b7 f60b2) Q ts os := id rfl
def f60r9 : List AI := [⟨none, (.bin 106 .add (.t 82) (.v (.k (.c (.int .i64 1)))))⟩, ⟨none, (.mov 82 (.t 106))⟩]
theorem uf60r9 : type_of% @f60r9.eq_1 := id @f60r9.eq_1
def f60r10 : List AI := [⟨none, (.mov 2 (.v (.k (.c (.int .i64 0)))))⟩, ⟨none, (.mov 3 (.v (.k (.c (.int .i64 11)))))⟩]
theorem uf60r10 : type_of% @f60r10.eq_1 := id @f60r10.eq_1
def f60b11 : AQ := (.seq (.region f60r10) .ret)
theorem uf60b11 (P ts os Q) : awl P f60b11 Q ts os = awl P (.seq (.region f60r10) .ret) Q ts os := id rfl
def f60b12 : AQ := (.cond (.t 105) f60b11 .skip)
theorem uf60b12 (P ts os Q) : awl P f60b12 Q ts os = awl P (.cond (.t 105) f60b11 .skip) Q ts os := id rfl
def f60r13 : List AI := [⟨none, (.mov 100 (.t 4))⟩, ⟨none, (.mov 101 (.t 11))⟩, ⟨none, (.iaddr 102 1 (.t 100) (.t 101))⟩, ⟨none, (.load 103 1 false (.t 102))⟩, ⟨none, (.mov 104 (.t 12))⟩, ⟨none, (.bin 105 .neq (.t 103) (.t 104))⟩]
theorem uf60r13 : type_of% @f60r13.eq_1 := id @f60r13.eq_1
def f60b14 : AQ := (.seq (.region f60r13) f60b12)
theorem uf60b14 (P ts os Q) : awl P f60b14 Q ts os = awl P (.seq (.region f60r13) f60b12) Q ts os := id rfl
def f60r15 : List AI := [⟨none, (.mov 99 (.t 10))⟩, ⟨none, (.mov 12 (.t 99))⟩]
theorem uf60r15 : type_of% @f60r15.eq_1 := id @f60r15.eq_1
def f60b16 : AQ := (.cond (.t 98) (.region f60r15) .skip)
theorem uf60b16 (P ts os Q) : awl P f60b16 Q ts os = awl P (.cond (.t 98) (.region f60r15) .skip) Q ts os := id rfl
def f60r17 : List AI := [⟨none, (.mov 97 (.t 12))⟩, ⟨none, (.bin 98 .eql (.t 97) (.v (.k (.c (.int .i64 (-1))))))⟩]
theorem uf60r17 : type_of% @f60r17.eq_1 := id @f60r17.eq_1
def f60b18 : AQ := (.seq (.region f60r17) f60b16)
theorem uf60b18 (P ts os Q) : awl P f60b18 Q ts os = awl P (.seq (.region f60r17) f60b16) Q ts os := id rfl
def f60b19 : AQ := (.seq f60b18 f60b14)
theorem uf60b19 (P ts os Q) : awl P f60b19 Q ts os = awl P (.seq f60b18 f60b14) Q ts os := id rfl
def f60r20 : List AI := [⟨none, (.mov 93 (.t 4))⟩, ⟨none, (.mov 94 (.t 11))⟩, ⟨none, (.iaddr 95 1 (.t 93) (.t 94))⟩, ⟨none, (.load 96 1 false (.t 95))⟩, ⟨none, (.mov 10 (.t 96))⟩]
theorem uf60r20 : type_of% @f60r20.eq_1 := id @f60r20.eq_1
def f60b21 : AQ := (.cond (.t 92) (.region f60r20) .skip)
theorem uf60b21 (P ts os Q) : awl P f60b21 Q ts os = awl P (.cond (.t 92) (.region f60r20) .skip) Q ts os := id rfl
def f60r22 : List AI := [⟨none, (.mov 87 (.t 12))⟩, ⟨none, (.bin 88 .eql (.t 87) (.v (.k (.c (.int .i64 (-1))))))⟩, ⟨none, (.mov 89 (.t 88))⟩, ⟨(some (89, true)), (.mov 90 (.t 10))⟩, ⟨(some (89, true)), (.bin 91 .eql (.t 90) (.v (.k (.c (.int .i64 (-1))))))⟩, ⟨none, (.pick 92 (.t 89) (.t 91) (.v (.k (.c (.bool false)))))⟩]
theorem uf60r22 : type_of% @f60r22.eq_1 := id @f60r22.eq_1
def f60b23 : AQ := (.seq (.region f60r22) f60b21)
theorem uf60b23 (P ts os Q) : awl P f60b23 Q ts os = awl P (.seq (.region f60r22) f60b21) Q ts os := id rfl
def f60b24 : AQ := (.seq f60b23 f60b19)
theorem uf60b24 (P ts os Q) : awl P f60b24 Q ts os = awl P (.seq f60b23 f60b19) Q ts os := id rfl
def f60r25 : List AI := [⟨none, (.mov 84 (.t 82))⟩, ⟨none, (.iaddr 85 1 (.t 80) (.t 82))⟩, ⟨none, (.load 86 1 false (.t 85))⟩, ⟨none, (.mov 11 (.t 84))⟩, ⟨none, (.mov 12 (.t 86))⟩]
theorem uf60r25 : type_of% @f60r25.eq_1 := id @f60r25.eq_1
def f60b26 : AQ := (.seq (.region f60r25) f60b24)
theorem uf60b26 (P ts os Q) : awl P f60b26 Q ts os = awl P (.seq (.region f60r25) f60b24) Q ts os := id rfl
def f60b27 : AQ := (.block 4 f60b26)
theorem uf60b27 (P ts os Q) : awl P f60b27 Q ts os = awl P (.block 4 f60b26) Q ts os := id rfl
def f60b28 : AQ := (.seq f60b27 (.region f60r9))
theorem uf60b28 (P ts os Q) : awl P f60b28 Q ts os = awl P (.seq f60b27 (.region f60r9)) Q ts os := id rfl
def f60b29 : AQ := (.cond (.t 83) .skip (.exit 3))
theorem uf60b29 (P ts os Q) : awl P f60b29 Q ts os = awl P (.cond (.t 83) .skip (.exit 3)) Q ts os := id rfl
def f60b30 : AQ := (.seq f60b29 f60b28)
theorem uf60b30 (P ts os Q) : awl P f60b30 Q ts os = awl P (.seq f60b29 f60b28) Q ts os := id rfl
def f60r31 : List AI := [⟨none, (.bin 83 .lss (.t 82) (.t 81))⟩]
theorem uf60r31 : type_of% @f60r31.eq_1 := id @f60r31.eq_1
def f60b32 : AQ := (.seq (.region f60r31) f60b30)
theorem uf60b32 (P ts os Q) : awl P f60b32 Q ts os = awl P (.seq (.region f60r31) f60b30) Q ts os := id rfl
def f60l33 : AQ := .loop [4, 9, 10, 80, 81, 82] [9, 16, 67, 68000, 68001, 68002] f60b32
theorem uf60l33 (P ts os Q) : awl P f60l33 Q ts os = awl P (.loop [4, 9, 10, 80, 81, 82] [9, 16, 67, 68000, 68001, 68002] f60b32) Q ts os := id rfl
def f60b34 : AQ := (.block 3 f60l33)
theorem uf60b34 (P ts os Q) : awl P f60b34 Q ts os = awl P (.block 3 f60l33) Q ts os := id rfl
def f60r35 : List AI := [⟨none, (.faddr 79 0 (.t 9))⟩, ⟨none, (.load 80 1 false (.t 79))⟩, ⟨none, (.len 81 (.t 80))⟩, ⟨none, (.mov 82 (.v (.k (.c (.int .i64 0)))))⟩]
theorem uf60r35 : type_of% @f60r35.eq_1 := id @f60r35.eq_1
def f60b36 : AQ := (.seq (.region f60r35) f60b34)
theorem uf60b36 (P ts os Q) : awl P f60b36 Q ts os = awl P (.seq (.region f60r35) f60b34) Q ts os := id rfl
def f60b37 : AQ := (.seq f60b36 f60b8)
theorem uf60b37 (P ts os Q) : awl P f60b37 Q ts os = awl P (.seq f60b36 f60b8) Q ts os := id rfl
def f60r38 : List AI := [⟨none, (.mov 10 (.v (.k (.c (.int .i64 (-1))))))⟩]
theorem uf60r38 : type_of% @f60r38.eq_1 := id @f60r38.eq_1
def f60b39 : AQ := (.seq (.region f60r38) f60b37)
theorem uf60b39 (P ts os Q) : awl P f60b39 Q ts os = awl P (.seq (.region f60r38) f60b37) Q ts os := id rfl
def f60r40 : List AI := [⟨none, (.mov 2 (.v (.k (.c (.int .i64 0)))))⟩, ⟨none, (.mov 3 (.v (.k (.c (.int .i64 2)))))⟩]
theorem uf60r40 : type_of% @f60r40.eq_1 := id @f60r40.eq_1
def f60b41 : AQ := (.seq (.region f60r40) .ret)
theorem uf60b41 (P ts os Q) : awl P f60b41 Q ts os = awl P (.seq (.region f60r40) .ret) Q ts os := id rfl
def f60b42 : AQ := (.cond (.t 78) f60b41 .skip)
theorem uf60b42 (P ts os Q) : awl P f60b42 Q ts os = awl P (.cond (.t 78) f60b41 .skip) Q ts os := id rfl
def f60r43 : List AI := [⟨none, (.mov 68 (.t 4))⟩, ⟨none, (.len 69 (.t 68))⟩, ⟨none, (.faddr 70 0 (.t 9))⟩, ⟨none, (.load 71 1 false (.t 70))⟩, ⟨none, (.len 72 (.t 71))⟩, ⟨none, (.bin 73 .neq (.t 69) (.t 72))⟩, ⟨none, (.mov 74 (.t 73))⟩, ⟨(some (74, false)), (.faddr 75 1 (.t 1))⟩, ⟨(some (74, false)), (.load 76 1 false (.t 75))⟩, ⟨(some (74, false)), (.bin 77 .neq (.t 76) (.v (.k (.c (.int .i64 0)))))⟩, ⟨none, (.pick 78 (.t 74) (.v (.k (.c (.bool true)))) (.t 77))⟩]
theorem uf60r43 : type_of% @f60r43.eq_1 := id @f60r43.eq_1
def f60b44 : AQ := (.seq (.region f60r43) f60b42)
theorem uf60b44 (P ts os Q) : awl P f60b44 Q ts os = awl P (.seq (.region f60r43) f60b42) Q ts os := id rfl
def f60b45 : AQ := (.seq f60b44 f60b39)
theorem uf60b45 (P ts os Q) : awl P f60b45 Q ts os = awl P (.seq f60b44 f60b39) Q ts os := id rfl
def f60r46 : List AI := [⟨none, (.faddr 65 0 (.t 1))⟩, ⟨none, (.load 66 1 false (.t 65))⟩, ⟨none, (.call (some 67) 72 [(.t 66)])⟩, ⟨none, (.alloc 9 92 [(.list 0 (some true) []), (.int .i64 0)])⟩, ⟨none, (.store 2 (.t 9) (.t 67))⟩]
theorem uf60r46 : type_of% @f60r46.eq_1 := id @f60r46.eq_1
def f60b47 : AQ := (.seq (.region f60r46) f60b45)
theorem uf60b47 (P ts os Q) : awl P f60b47 Q ts os = awl P (.seq (.region f60r46) f60b45) Q ts os := id rfl
def f60r48 : List AI := [⟨none, (.mov 2 (.v (.k (.c (.int .i64 0)))))⟩, ⟨none, (.mov 3 (.v (.k (.c (.int .i64 1)))))⟩]
theorem uf60r48 : type_of% @f60r48.eq_1 := id @f60r48.eq_1
def f60b49 : AQ := (.seq (.region f60r48) .ret)
theorem uf60b49 (P ts os Q) : awl P f60b49 Q ts os = awl P (.seq (.region f60r48) .ret) Q ts os := id rfl
def f60r50 : List AI := [⟨none, (.load 61 3 true (.t 1))⟩, ⟨none, (.call (some 62) 71 [(.t 61)])⟩, ⟨none, (.extr 63 (.t 62) 0)⟩, ⟨none, (.extr 64 (.t 62) 1)⟩, ⟨none, (.mov 2 (.t 63))⟩, ⟨none, (.mov 3 (.t 64))⟩]
theorem uf60r50 : type_of% @f60r50.eq_1 := id @f60r50.eq_1
def f60b51 : AQ := (.seq (.region f60r50) .ret)
theorem uf60b51 (P ts os Q) : awl P f60b51 Q ts os = awl P (.seq (.region f60r50) .ret) Q ts os := id rfl
def f60b52 : AQ := (.cond (.t 47) f60b51 .skip)
theorem uf60b52 (P ts os Q) : awl P f60b52 Q ts os = awl P (.cond (.t 47) f60b51 .skip) Q ts os := id rfl
def f60r53 : List AI := [⟨none, (.faddr 48 0 (.t 1))⟩, ⟨none, (.load 49 1 false (.t 48))⟩, ⟨none, (.bin 50 .eql (.t 49) (.v (.k (.c (.int .i64 0)))))⟩, ⟨none, (.mov 51 (.t 50))⟩, ⟨(some (51, false)), (.faddr 52 0 (.t 1))⟩, ⟨(some (51, false)), (.load 53 1 false (.t 52))⟩, ⟨(some (51, false)), (.bin 54 .eql (.t 53) (.v (.k (.c (.int .i64 1)))))⟩, ⟨none, (.pick 55 (.t 51) (.v (.k (.c (.bool true)))) (.t 54))⟩, ⟨none, (.mov 56 (.t 55))⟩, ⟨(some (56, false)), (.faddr 57 0 (.t 1))⟩, ⟨(some (56, false)), (.load 58 1 false (.t 57))⟩, ⟨(some (56, false)), (.bin 59 .eql (.t 58) (.v (.k (.c (.int .i64 2)))))⟩, ⟨none, (.pick 60 (.t 56) (.v (.k (.c (.bool true)))) (.t 59))⟩, ⟨none, (.mov 47 (.t 60))⟩]
theorem uf60r53 : type_of% @f60r53.eq_1 := id @f60r53.eq_1
def f60b54 : AQ := (.seq (.region f60r53) f60b52)
theorem uf60b54 (P ts os Q) : awl P f60b54 Q ts os = awl P (.seq (.region f60r53) f60b52) Q ts os := id rfl
def f60b55 : AQ := (.cond (.t 38) f60b49 f60b54)
theorem uf60b55 (P ts os Q) : awl P f60b55 Q ts os = awl P (.cond (.t 38) f60b49 f60b54) Q ts os := id rfl
def f60r56 : List AI := [⟨none, (.faddr 39 0 (.t 1))⟩, ⟨none, (.load 40 1 false (.t 39))⟩, ⟨none, (.bin 41 .lss (.t 40) (.v (.k (.c (.int .i64 0)))))⟩, ⟨none, (.mov 42 (.t 41))⟩, ⟨(some (42, false)), (.faddr 43 0 (.t 1))⟩, ⟨(some (42, false)), (.load 44 1 false (.t 43))⟩, ⟨(some (42, false)), (.bin 45 .gtr (.t 44) (.v (.k (.c (.int .i64 13)))))⟩, ⟨none, (.pick 46 (.t 42) (.v (.k (.c (.bool true)))) (.t 45))⟩, ⟨none, (.mov 38 (.t 46))⟩]
theorem uf60r56 : type_of% @f60r56.eq_1 := id @f60r56.eq_1
def f60b57 : AQ := (.seq (.region f60r56) f60b55)
theorem uf60b57 (P ts os Q) : awl P f60b57 Q ts os = awl P (.seq (.region f60r56) f60b55) Q ts os := id rfl
def f60b58 : AQ := (.block 2 f60b57)
theorem uf60b58 (P ts os Q) : awl P f60b58 Q ts os = awl P (.block 2 f60b57) Q ts os := id rfl
def f60b59 : AQ := (.seq f60b58 f60b47)
theorem uf60b59 (P ts os Q) : awl P f60b59 Q ts os = awl P (.seq f60b58 f60b47) Q ts os := id rfl
def f60r60 : List AI := [⟨none, (.bin 37 .add (.t 20) (.v (.k (.c (.int .i64 1)))))⟩, ⟨none, (.mov 20 (.t 37))⟩]
theorem uf60r60 : type_of% @f60r60.eq_1 := id @f60r60.eq_1
def f60r61 : List AI := [⟨none, (.mov 33 (.t 4))⟩, ⟨none, (.mov 34 (.t 5))⟩, ⟨none, (.mov 35 (.t 7))⟩, ⟨none, (.iaddr 36 1 (.t 33) (.t 34))⟩, ⟨none, (.store 1 (.t 36) (.t 35))⟩]
theorem uf60r61 : type_of% @f60r61.eq_1 := id @f60r61.eq_1
def f60r62 : List AI := [⟨none, (.mov 32 (.t 8))⟩, ⟨none, (.mov 2 (.v (.k (.c (.int .i64 0)))))⟩, ⟨none, (.mov 3 (.t 32))⟩]
theorem uf60r62 : type_of% @f60r62.eq_1 := id @f60r62.eq_1
def f60b63 : AQ := (.seq (.region f60r62) .ret)
theorem uf60b63 (P ts os Q) : awl P f60b63 Q ts os = awl P (.seq (.region f60r62) .ret) Q ts os := id rfl
def f60b64 : AQ := (.cond (.t 31) f60b63 .skip)
theorem uf60b64 (P ts os Q) : awl P f60b64 Q ts os = awl P (.cond (.t 31) f60b63 .skip) Q ts os := id rfl
def f60r65 : List AI := [⟨none, (.mov 30 (.t 8))⟩, ⟨none, (.bin 31 .neq (.t 30) (.v (.k (.c (.int .i64 0)))))⟩]
theorem uf60r65 : type_of% @f60r65.eq_1 := id @f60r65.eq_1
def f60b66 : AQ := (.seq (.region f60r65) f60b64)
theorem uf60b66 (P ts os Q) : awl P f60b66 Q ts os = awl P (.seq (.region f60r65) f60b64) Q ts os := id rfl
def f60b67 : AQ := (.seq f60b66 (.region f60r61))
theorem uf60b67 (P ts os Q) : awl P f60b67 Q ts os = awl P (.seq f60b66 (.region f60r61)) Q ts os := id rfl
def f60r68 : List AI := [⟨none, (.load 26 3 true (.t 6))⟩, ⟨none, (.call (some 27) 60 [(.t 26)])⟩, ⟨none, (.mov 25 (.t 27))⟩, ⟨none, (.extr 28 (.t 25) 0)⟩, ⟨none, (.extr 29 (.t 25) 1)⟩, ⟨none, (.mov 7 (.t 28))⟩, ⟨none, (.mov 8 (.t 29))⟩]
theorem uf60r68 : type_of% @f60r68.eq_1 := id @f60r68.eq_1
def f60b69 : AQ := (.seq (.region f60r68) f60b67)
theorem uf60b69 (P ts os Q) : awl P f60b69 Q ts os = awl P (.seq (.region f60r68) f60b67) Q ts os := id rfl
def f60r70 : List AI := [⟨none, (.mov 22 (.t 20))⟩, ⟨none, (.iaddr 23 3 (.t 18) (.t 20))⟩, ⟨none, (.load 24 3 true (.t 23))⟩, ⟨none, (.alloc 6 41 [(.int .i64 0), (.int .i64 0), (.list 0 (some true) [])])⟩, ⟨none, (.mov 5 (.t 22))⟩, ⟨none, (.store 3 (.t 6) (.t 24))⟩]
theorem uf60r70 : type_of% @f60r70.eq_1 := id @f60r70.eq_1
def f60b71 : AQ := (.seq (.region f60r70) f60b69)
theorem uf60b71 (P ts os Q) : awl P f60b71 Q ts os = awl P (.seq (.region f60r70) f60b69) Q ts os := id rfl
def f60b72 : AQ := (.block 1 f60b71)
theorem uf60b72 (P ts os Q) : awl P f60b72 Q ts os = awl P (.block 1 f60b71) Q ts os := id rfl
def f60b73 : AQ := (.seq f60b72 (.region f60r60))
theorem uf60b73 (P ts os Q) : awl P f60b73 Q ts os = awl P (.seq f60b72 (.region f60r60)) Q ts os := id rfl
def f60b74 : AQ := (.cond (.t 21) .skip (.exit 0))
theorem uf60b74 (P ts os Q) : awl P f60b74 Q ts os = awl P (.cond (.t 21) .skip (.exit 0)) Q ts os := id rfl
def f60b75 : AQ := (.seq f60b74 f60b73)
theorem uf60b75 (P ts os Q) : awl P f60b75 Q ts os = awl P (.seq f60b74 f60b73) Q ts os := id rfl
def f60r76 : List AI := [⟨none, (.bin 21 .lss (.t 20) (.t 19))⟩]
theorem uf60r76 : type_of% @f60r76.eq_1 := id @f60r76.eq_1
def f60b77 : AQ := (.seq (.region f60r76) f60b75)
theorem uf60b77 (P ts os Q) : awl P f60b77 Q ts os = awl P (.seq (.region f60r76) f60b75) Q ts os := id rfl
def f60l78 : AQ := .loop [1, 4, 18, 19, 20] [1, 16] f60b77
theorem uf60l78 (P ts os Q) : awl P f60l78 Q ts os = awl P (.loop [1, 4, 18, 19, 20] [1, 16] f60b77) Q ts os := id rfl
def f60b79 : AQ := (.block 0 f60l78)
theorem uf60b79 (P ts os Q) : awl P f60b79 Q ts os = awl P (.block 0 f60l78) Q ts os := id rfl
def f60r80 : List AI := [⟨none, (.faddr 17 2 (.t 1))⟩, ⟨none, (.load 18 1 false (.t 17))⟩, ⟨none, (.len 19 (.t 18))⟩, ⟨none, (.mov 20 (.v (.k (.c (.int .i64 0)))))⟩]
theorem uf60r80 : type_of% @f60r80.eq_1 := id @f60r80.eq_1
def f60b81 : AQ := (.seq (.region f60r80) f60b79)
theorem uf60b81 (P ts os Q) : awl P f60b81 Q ts os = awl P (.seq (.region f60r80) f60b79) Q ts os := id rfl
def f60b82 : AQ := (.seq f60b81 f60b59)
theorem uf60b82 (P ts os Q) : awl P f60b82 Q ts os = awl P (.seq f60b81 f60b59) Q ts os := id rfl
def f60r83 : List AI := [⟨none, (.faddr 13 2 (.t 1))⟩, ⟨none, (.load 14 1 false (.t 13))⟩, ⟨none, (.len 15 (.t 14))⟩, ⟨none, (.mkslice 16 3 1 8 [(.int .i64 0)] (.t 15) (.t 15))⟩, ⟨none, (.mov 4 (.t 16))⟩]
theorem uf60r83 : type_of% @f60r83.eq_1 := id @f60r83.eq_1
def f60b84 : AQ := (.seq (.region f60r83) f60b82)
theorem uf60b84 (P ts os Q) : awl P f60b84 Q ts os = awl P (.seq (.region f60r83) f60b82) Q ts os := id rfl
def f60r85 : List AI := [⟨none, (.box 1 41 (.t 0))⟩, ⟨none, (.mov 2 (.v (.k (.c (.int .i64 0)))))⟩, ⟨none, (.mov 3 (.v (.k (.c (.int .i64 0)))))⟩]
theorem uf60r85 : type_of% @f60r85.eq_1 := id @f60r85.eq_1
def f60b86 : AQ := (.seq (.region f60r85) f60b84)
theorem uf60b86 (P ts os Q) : awl P f60b86 Q ts os = awl P (.seq (.region f60r85) f60b84) Q ts os := id rfl
def f60 : AQ := f60b86
theorem uf60 (P ts os Q) : awl P f60 Q ts os = awl P f60b86 Q ts os := id rfl
theorem hf60 : cFunc Try.prog 60 = some ⟨113, f60.erase, [(RX.t 2), (RX.t 3)]⟩ := by kernel_rfl
theorem okf60 : f60.ok = true := by kernel_rfl
def f62r1 : List AI := [⟨none, (.bin 24 .add (.t 17) (.v (.k (.c (.int .i64 1)))))⟩, ⟨none, (.mov 17 (.t 24))⟩]
theorem uf62r1 : type_of% @f62r1.eq_1 := id @f62r1.eq_1
def f62r2 : List AI := [⟨none, (.load 21 1 false (.t 2))⟩, ⟨none, (.load 22 3 true (.t 5))⟩, ⟨none, (.callv (some 23) (.t 21) [(.t 22)])⟩]
theorem uf62r2 : type_of% @f62r2.eq_1 := id @f62r2.eq_1
def f62r3 : List AI := [⟨none, (.iaddr 19 3 (.t 15) (.t 17))⟩, ⟨none, (.load 20 3 true (.t 19))⟩, ⟨none, (.alloc 5 41 [(.int .i64 0), (.int .i64 0), (.list 0 (some true) [])])⟩, ⟨none, (.store 3 (.t 5) (.t 20))⟩]
theorem uf62r3 : type_of% @f62r3.eq_1 := id @f62r3.eq_1
def f62b4 : AQ := (.seq (.region f62r3) (.region f62r2))
theorem uf62b4 (P ts os Q) : awl P f62b4 Q ts os = awl P (.seq (.region f62r3) (.region f62r2)) Q ts os := id rfl
def f62b5 : AQ := (.block 1 f62b4)
theorem uf62b5 (P ts os Q) : awl P f62b5 Q ts os = awl P (.block 1 f62b4) Q ts os := id rfl
def f62b6 : AQ := (.seq f62b5 (.region f62r1))
theorem uf62b6 (P ts os Q) : awl P f62b6 Q ts os = awl P (.seq f62b5 (.region f62r1)) Q ts os := id rfl
def f62b7 : AQ := (.cond (.t 18) .skip (.exit 0))
theorem uf62b7 (P ts os Q) : awl P f62b7 Q ts os = awl P (.cond (.t 18) .skip (.exit 0)) Q ts os := id rfl
def f62b8 : AQ := (.seq f62b7 f62b6)
theorem uf62b8 (P ts os Q) : awl P f62b8 Q ts os = awl P (.seq f62b7 f62b6) Q ts os := id rfl
def f62r9 : List AI := [⟨none, (.bin 18 .lss (.t 17) (.t 16))⟩]
theorem uf62r9 : type_of% @f62r9.eq_1 := id @f62r9.eq_1
def f62b10 : AQ := (.seq (.region f62r9) f62b8)
theorem uf62b10 (P ts os Q) : awl P f62b10 Q ts os = awl P (.seq (.region f62r9) f62b8) Q ts os := id rfl
def f62l11 : AQ := .loop [1, 2, 15, 16, 17] [1000, 1005, 1006] f62b10
theorem uf62l11 (P ts os Q) : awl P f62l11 Q ts os = awl P (.loop [1, 2, 15, 16, 17] [1000, 1005, 1006] f62b10) Q ts os := id rfl
def f62b12 : AQ := (.block 0 f62l11)
theorem uf62b12 (P ts os Q) : awl P f62b12 Q ts os = awl P (.block 0 f62l11) Q ts os := id rfl
def f62r13 : List AI := [⟨none, (.faddr 14 2 (.t 3))⟩, ⟨none, (.load 15 1 false (.t 14))⟩, ⟨none, (.len 16 (.t 15))⟩, ⟨none, (.mov 17 (.v (.k (.c (.int .i64 0)))))⟩]
theorem uf62r13 : type_of% @f62r13.eq_1 := id @f62r13.eq_1
def f62b14 : AQ := (.seq (.region f62r13) f62b12)
theorem uf62b14 (P ts os Q) : awl P f62b14 Q ts os = awl P (.seq (.region f62r13) f62b12) Q ts os := id rfl
def f62r15 : List AI := [⟨none, (.load 9 1 false (.t 1))⟩, ⟨none, (.faddr 10 1 (.t 3))⟩, ⟨none, (.load 11 1 false (.t 10))⟩, ⟨none, (.bslice 12 3 1 [(.int .i64 0)] 1 [(0, (.t 11))])⟩, ⟨none, (.append 13 3 1 8 (.t 9) (.t 12))⟩, ⟨none, (.store 1 (.t 1) (.t 13))⟩]
theorem uf62r15 : type_of% @f62r15.eq_1 := id @f62r15.eq_1
def f62b16 : AQ := (.cond (.t 8) (.region f62r15) .skip)
theorem uf62b16 (P ts os Q) : awl P f62b16 Q ts os = awl P (.cond (.t 8) (.region f62r15) .skip) Q ts os := id rfl
def f62r17 : List AI := [⟨none, (.faddr 6 0 (.t 3))⟩, ⟨none, (.load 7 1 false (.t 6))⟩, ⟨none, (.bin 8 .eql (.t 7) (.v (.k (.c (.int .i64 2)))))⟩]
theorem uf62r17 : type_of% @f62r17.eq_1 := id @f62r17.eq_1
def f62b18 : AQ := (.seq (.region f62r17) f62b16)
theorem uf62b18 (P ts os Q) : awl P f62b18 Q ts os = awl P (.seq (.region f62r17) f62b16) Q ts os := id rfl
def f62b19 : AQ := (.seq f62b18 f62b14)
theorem uf62b19 (P ts os Q) : awl P f62b19 Q ts os = awl P (.seq f62b18 f62b14) Q ts os := id rfl
def f62r20 : List AI := [⟨none, (.box 3 41 (.t 0))⟩]
theorem uf62r20 : type_of% @f62r20.eq_1 := id @f62r20.eq_1
def f62b21 : AQ := (.seq (.region f62r20) f62b19)
theorem uf62b21 (P ts os Q) : awl P f62b21 Q ts os = awl P (.seq (.region f62r20) f62b19) Q ts os := id rfl
def f62 : AQ := f62b21
theorem uf62 (P ts os Q) : awl P f62 Q ts os = awl P f62b21 Q ts os := id rfl
theorem hf62 : cFunc Try.prog 62 = some ⟨25, f62.erase, []⟩ := by kernel_rfl
theorem okf62 : f62.ok = true := by kernel_rfl
def f67r1 : List AI := [⟨none, (.mov 4 (.v (.k (.c (.int .i64 (-1))))))⟩]
theorem uf67r1 : type_of% @f67r1.eq_1 := id @f67r1.eq_1
def f67b2 : AQ := (.seq (.region f67r1) .ret)
theorem uf67b2 (P ts os Q) : awl P f67b2 Q ts os = awl P (.seq (.region f67r1) .ret) Q ts os := id rfl
def f67r3 : List AI := [⟨none, (.bin 18 .add (.t 8) (.v (.k (.c (.int .i64 1)))))⟩, ⟨none, (.mov 8 (.t 18))⟩]
theorem uf67r3 : type_of% @f67r3.eq_1 := id @f67r3.eq_1
def f67r4 : List AI := [⟨none, (.mov 17 (.t 5))⟩, ⟨none, (.mov 4 (.t 17))⟩]
theorem uf67r4 : type_of% @f67r4.eq_1 := id @f67r4.eq_1
def f67b5 : AQ := (.seq (.region f67r4) .ret)
theorem uf67b5 (P ts os Q) : awl P f67b5 Q ts os = awl P (.seq (.region f67r4) .ret) Q ts os := id rfl
def f67b6 : AQ := (.cond (.t 16) f67b5 .skip)
theorem uf67b6 (P ts os Q) : awl P f67b6 Q ts os = awl P (.cond (.t 16) f67b5 .skip) Q ts os := id rfl
def f67r7 : List AI := [⟨none, (.mov 11 (.t 1))⟩, ⟨none, (.mov 12 (.t 0))⟩, ⟨none, (.mov 13 (.t 5))⟩, ⟨none, (.iaddr 14 4 (.t 12) (.t 13))⟩, ⟨none, (.load 15 4 true (.t 14))⟩, ⟨none, (.callv (some 16) (.t 11) [(.t 15)])⟩]
theorem uf67r7 : type_of% @f67r7.eq_1 := id @f67r7.eq_1
def f67b8 : AQ := (.seq (.region f67r7) f67b6)
theorem uf67b8 (P ts os Q) : awl P f67b8 Q ts os = awl P (.seq (.region f67r7) f67b6) Q ts os := id rfl
def f67r9 : List AI := [⟨none, (.mov 10 (.t 8))⟩, ⟨none, (.mov 5 (.t 10))⟩]
theorem uf67r9 : type_of% @f67r9.eq_1 := id @f67r9.eq_1
def f67b10 : AQ := (.seq (.region f67r9) f67b8)
theorem uf67b10 (P ts os Q) : awl P f67b10 Q ts os = awl P (.seq (.region f67r9) f67b8) Q ts os := id rfl
def f67b11 : AQ := (.block 1 f67b10)
theorem uf67b11 (P ts os Q) : awl P f67b11 Q ts os = awl P (.block 1 f67b10) Q ts os := id rfl
def f67b12 : AQ := (.seq f67b11 (.region f67r3))
theorem uf67b12 (P ts os Q) : awl P f67b12 Q ts os = awl P (.seq f67b11 (.region f67r3)) Q ts os := id rfl
def f67b13 : AQ := (.cond (.t 9) .skip (.exit 0))
theorem uf67b13 (P ts os Q) : awl P f67b13 Q ts os = awl P (.cond (.t 9) .skip (.exit 0)) Q ts os := id rfl
def f67b14 : AQ := (.seq f67b13 f67b12)
theorem uf67b14 (P ts os Q) : awl P f67b14 Q ts os = awl P (.seq f67b13 f67b12) Q ts os := id rfl
def f67r15 : List AI := [⟨none, (.bin 9 .lss (.t 8) (.t 7))⟩]
theorem uf67r15 : type_of% @f67r15.eq_1 := id @f67r15.eq_1
def f67b16 : AQ := (.seq (.region f67r15) f67b14)
theorem uf67b16 (P ts os Q) : awl P f67b16 Q ts os = awl P (.seq (.region f67r15) f67b14) Q ts os := id rfl
def f67l17 : AQ := .loop [0, 1, 7, 8] [] f67b16
theorem uf67l17 (P ts os Q) : awl P f67l17 Q ts os = awl P (.loop [0, 1, 7, 8] [] f67b16) Q ts os := id rfl
def f67b18 : AQ := (.block 0 f67l17)
theorem uf67b18 (P ts os Q) : awl P f67b18 Q ts os = awl P (.block 0 f67l17) Q ts os := id rfl
def f67r19 : List AI := [⟨none, (.mov 6 (.t 0))⟩, ⟨none, (.len 7 (.t 6))⟩, ⟨none, (.mov 8 (.v (.k (.c (.int .i64 0)))))⟩]
theorem uf67r19 : type_of% @f67r19.eq_1 := id @f67r19.eq_1
def f67b20 : AQ := (.seq (.region f67r19) f67b18)
theorem uf67b20 (P ts os Q) : awl P f67b20 Q ts os = awl P (.seq (.region f67r19) f67b18) Q ts os := id rfl
def f67b21 : AQ := (.seq f67b20 f67b2)
theorem uf67b21 (P ts os Q) : awl P f67b21 Q ts os = awl P (.seq f67b20 f67b2) Q ts os := id rfl
def f67r22 : List AI := [⟨none, (.mov 4 (.v (.k (.c (.int .i64 0)))))⟩]
theorem uf67r22 : type_of% @f67r22.eq_1 := id @f67r22.eq_1
def f67b23 : AQ := (.seq (.region f67r22) f67b21)
theorem uf67b23 (P ts os Q) : awl P f67b23 Q ts os = awl P (.seq (.region f67r22) f67b21) Q ts os := id rfl
def f67 : AQ := f67b23
theorem uf67 (P ts os Q) : awl P f67 Q ts os = awl P f67b23 Q ts os := id rfl
theorem hf67 : cFunc Try.prog 67 = some ⟨19, f67.erase, [(RX.t 4)]⟩ := by kernel_rfl
theorem okf67 : f67.ok = true := by kernel_rfl
def f70r1 : List AI := [⟨none, (.mov 4 (.v (.k (.c (.int .i64 (-1))))))⟩]
theorem uf70r1 : type_of% @f70r1.eq_1 := id @f70r1.eq_1
def f70b2 : AQ := (.seq (.region f70r1) .ret)
theorem uf70b2 (P ts os Q) : awl P f70b2 Q ts os = awl P (.seq (.region f70r1) .ret) Q ts os := id rfl
def f70r3 : List AI := [⟨none, (.bin 18 .add (.t 8) (.v (.k (.c (.int .i64 1)))))⟩, ⟨none, (.mov 8 (.t 18))⟩]
theorem uf70r3 : type_of% @f70r3.eq_1 := id @f70r3.eq_1
def f70r4 : List AI := [⟨none, (.mov 17 (.t 5))⟩, ⟨none, (.mov 4 (.t 17))⟩]
theorem uf70r4 : type_of% @f70r4.eq_1 := id @f70r4.eq_1
def f70b5 : AQ := (.seq (.region f70r4) .ret)
theorem uf70b5 (P ts os Q) : awl P f70b5 Q ts os = awl P (.seq (.region f70r4) .ret) Q ts os := id rfl
def f70b6 : AQ := (.cond (.t 16) f70b5 .skip)
theorem uf70b6 (P ts os Q) : awl P f70b6 Q ts os = awl P (.cond (.t 16) f70b5 .skip) Q ts os := id rfl
def f70r7 : List AI := [⟨none, (.mov 11 (.t 1))⟩, ⟨none, (.mov 12 (.t 0))⟩, ⟨none, (.mov 13 (.t 5))⟩, ⟨none, (.iaddr 14 1 (.t 12) (.t 13))⟩, ⟨none, (.load 15 1 false (.t 14))⟩, ⟨none, (.callv (some 16) (.t 11) [(.t 15)])⟩]
theorem uf70r7 : type_of% @f70r7.eq_1 := id @f70r7.eq_1
def f70b8 : AQ := (.seq (.region f70r7) f70b6)
theorem uf70b8 (P ts os Q) : awl P f70b8 Q ts os = awl P (.seq (.region f70r7) f70b6) Q ts os := id rfl
def f70r9 : List AI := [⟨none, (.mov 10 (.t 8))⟩, ⟨none, (.mov 5 (.t 10))⟩]
theorem uf70r9 : type_of% @f70r9.eq_1 := id @f70r9.eq_1
def f70b10 : AQ := (.seq (.region f70r9) f70b8)
theorem uf70b10 (P ts os Q) : awl P f70b10 Q ts os = awl P (.seq (.region f70r9) f70b8) Q ts os := id rfl
def f70b11 : AQ := (.block 1 f70b10)
theorem uf70b11 (P ts os Q) : awl P f70b11 Q ts os = awl P (.block 1 f70b10) Q ts os := id rfl
def f70b12 : AQ := (.seq f70b11 (.region f70r3))
theorem uf70b12 (P ts os Q) : awl P f70b12 Q ts os = awl P (.seq f70b11 (.region f70r3)) Q ts os := id rfl
def f70b13 : AQ := (.cond (.t 9) .skip (.exit 0))
theorem uf70b13 (P ts os Q) : awl P f70b13 Q ts os = awl P (.cond (.t 9) .skip (.exit 0)) Q ts os := id rfl
def f70b14 : AQ := (.seq f70b13 f70b12)
theorem uf70b14 (P ts os Q) : awl P f70b14 Q ts os = awl P (.seq f70b13 f70b12) Q ts os := id rfl
def f70r15 : List AI := [⟨none, (.bin 9 .lss (.t 8) (.t 7))⟩]
theorem uf70r15 : type_of% @f70r15.eq_1 := id @f70r15.eq_1
def f70b16 : AQ := (.seq (.region f70r15) f70b14)
theorem uf70b16 (P ts os Q) : awl P f70b16 Q ts os = awl P (.seq (.region f70r15) f70b14) Q ts os := id rfl
def f70l17 : AQ := .loop [0, 1, 7, 8] [] f70b16
theorem uf70l17 (P ts os Q) : awl P f70l17 Q ts os = awl P (.loop [0, 1, 7, 8] [] f70b16) Q ts os := id rfl
def f70b18 : AQ := (.block 0 f70l17)
theorem uf70b18 (P ts os Q) : awl P f70b18 Q ts os = awl P (.block 0 f70l17) Q ts os := id rfl
def f70r19 : List AI := [⟨none, (.mov 6 (.t 0))⟩, ⟨none, (.len 7 (.t 6))⟩, ⟨none, (.mov 8 (.v (.k (.c (.int .i64 0)))))⟩]
theorem uf70r19 : type_of% @f70r19.eq_1 := id @f70r19.eq_1
def f70b20 : AQ := (.seq (.region f70r19) f70b18)
theorem uf70b20 (P ts os Q) : awl P f70b20 Q ts os = awl P (.seq (.region f70r19) f70b18) Q ts os := id rfl
def f70b21 : AQ := (.seq f70b20 f70b2)
theorem uf70b21 (P ts os Q) : awl P f70b21 Q ts os = awl P (.seq f70b20 f70b2) Q ts os := id rfl
def f70r22 : List AI := [⟨none, (.mov 4 (.v (.k (.c (.int .i64 0)))))⟩]
theorem uf70r22 : type_of% @f70r22.eq_1 := id @f70r22.eq_1
def f70b23 : AQ := (.seq (.region f70r22) f70b21)
theorem uf70b23 (P ts os Q) : awl P f70b23 Q ts os = awl P (.seq (.region f70r22) f70b21) Q ts os := id rfl
def f70 : AQ := f70b23
theorem uf70 (P ts os Q) : awl P f70 Q ts os = awl P f70b23 Q ts os := id rfl
theorem hf70 : cFunc Try.prog 70 = some ⟨19, f70.erase, [(RX.t 4)]⟩ := by kernel_rfl
theorem okf70 : f70.ok = true := by kernel_rfl
def f71r1 : List AI := [⟨none, (.mov 38 (.t 4))⟩, ⟨none, (.mov 2 (.t 38))⟩, ⟨none, (.mov 3 (.v (.k (.c (.int .i64 0)))))⟩]
theorem uf71r1 : type_of% @f71r1.eq_1 := id @f71r1.eq_1
def f71b2 : AQ := (.seq (.region f71r1) .ret)
theorem uf71b2 (P ts os Q) : awl P f71b2 Q ts os = awl P (.seq (.region f71r1) .ret) Q ts os := id rfl
def f71r3 : List AI := [⟨none, (.mov 2 (.v (.k (.c (.int .i64 0)))))⟩, ⟨none, (.mov 3 (.v (.k (.c (.int .i64 10)))))⟩]
theorem uf71r3 : type_of% @f71r3.eq_1 := id @f71r3.eq_1
def f71b4 : AQ := (.seq (.region f71r3) .ret)
theorem uf71b4 (P ts os Q) : awl P f71b4 Q ts os = awl P (.seq (.region f71r3) .ret) Q ts os := id rfl
def f71b5 : AQ := (.cond (.t 37) f71b4 .skip)
theorem uf71b5 (P ts os Q) : awl P f71b5 Q ts os = awl P (.cond (.t 37) f71b4 .skip) Q ts os := id rfl
def f71r6 : List AI := [⟨none, (.mov 36 (.t 5))⟩, ⟨none, (.un 37 .not (.t 36))⟩]
theorem uf71r6 : type_of% @f71r6.eq_1 := id @f71r6.eq_1
def f71b7 : AQ := (.seq (.region f71r6) f71b5)
theorem uf71b7 (P ts os Q) : awl P f71b7 Q ts os = awl P (.seq (.region f71r6) f71b5) Q ts os := id rfl
def f71b8 : AQ := (.seq f71b7 f71b2)
theorem uf71b8 (P ts os Q) : awl P f71b8 Q ts os = awl P (.seq f71b7 f71b2) Q ts os := id rfl
def f71r9 : List AI := [⟨none, (.faddr 31 1 (.t 1))⟩, ⟨none, (.load 32 1 false (.t 31))⟩, ⟨none, (.call (some 33) 33 [(.t 32)])⟩, ⟨none, (.mov 30 (.t 33))⟩, ⟨none, (.extr 34 (.t 30) 0)⟩, ⟨none, (.extr 35 (.t 30) 1)⟩, ⟨none, (.mov 4 (.t 34))⟩, ⟨none, (.mov 5 (.t 35))⟩]
theorem uf71r9 : type_of% @f71r9.eq_1 := id @f71r9.eq_1
def f71b10 : AQ := (.seq (.region f71r9) f71b8)
theorem uf71b10 (P ts os Q) : awl P f71b10 Q ts os = awl P (.seq (.region f71r9) f71b8) Q ts os := id rfl
def f71r11 : List AI := [⟨none, (.mov 2 (.v (.k (.c (.int .i64 0)))))⟩, ⟨none, (.mov 3 (.v (.k (.c (.int .i64 0)))))⟩]
theorem uf71r11 : type_of% @f71r11.eq_1 := id @f71r11.eq_1
def f71b12 : AQ := (.seq (.region f71r11) .ret)
theorem uf71b12 (P ts os Q) : awl P f71b12 Q ts os = awl P (.seq (.region f71r11) .ret) Q ts os := id rfl
def f71r13 : List AI := [⟨none, (.mov 2 (.v (.k (.c (.int .i64 0)))))⟩, ⟨none, (.mov 3 (.v (.k (.c (.int .i64 3)))))⟩]
theorem uf71r13 : type_of% @f71r13.eq_1 := id @f71r13.eq_1
def f71b14 : AQ := (.seq (.region f71r13) .ret)
theorem uf71b14 (P ts os Q) : awl P f71b14 Q ts os = awl P (.seq (.region f71r13) .ret) Q ts os := id rfl
def f71b15 : AQ := (.cond (.t 19) f71b14 .skip)
theorem uf71b15 (P ts os Q) : awl P f71b15 Q ts os = awl P (.cond (.t 19) f71b14 .skip) Q ts os := id rfl
def f71r16 : List AI := [⟨none, (.faddr 14 1 (.t 1))⟩, ⟨none, (.load 15 1 false (.t 14))⟩, ⟨none, (.call (some 16) 93 [(.t 15)])⟩, ⟨none, (.faddr 17 1 (.t 1))⟩, ⟨none, (.load 18 1 false (.t 17))⟩, ⟨none, (.bin 19 .neq (.t 16) (.t 18))⟩]
theorem uf71r16 : type_of% @f71r16.eq_1 := id @f71r16.eq_1
def f71b17 : AQ := (.seq (.draw f71r16 [[], [0], [1], [], [3], [2, 4]]) f71b15)
theorem uf71b17 (P ts os Q) : awl P f71b17 Q ts os = awl P (.seq (.draw f71r16 [[], [0], [1], [], [3], [2, 4]]) f71b15) Q ts os := id rfl
def f71b18 : AQ := (.seq f71b17 f71b12)
theorem uf71b18 (P ts os Q) : awl P f71b18 Q ts os = awl P (.seq f71b17 f71b12) Q ts os := id rfl
def f71r19 : List AI := [⟨none, (.mov 2 (.v (.k (.c (.int .i64 1)))))⟩, ⟨none, (.mov 3 (.v (.k (.c (.int .i64 0)))))⟩]
theorem uf71r19 : type_of% @f71r19.eq_1 := id @f71r19.eq_1
def f71b20 : AQ := (.seq (.region f71r19) .ret)
theorem uf71b20 (P ts os Q) : awl P f71b20 Q ts os = awl P (.seq (.region f71r19) .ret) Q ts os := id rfl
def f71r21 : List AI := [⟨none, (.mov 2 (.v (.k (.c (.int .i64 0)))))⟩, ⟨none, (.mov 3 (.v (.k (.c (.int .i64 3)))))⟩]
theorem uf71r21 : type_of% @f71r21.eq_1 := id @f71r21.eq_1
def f71b22 : AQ := (.seq (.region f71r21) .ret)
theorem uf71b22 (P ts os Q) : awl P f71b22 Q ts os = awl P (.seq (.region f71r21) .ret) Q ts os := id rfl
def f71b23 : AQ := (.cond (.t 29) f71b22 .skip)
theorem uf71b23 (P ts os Q) : awl P f71b23 Q ts os = awl P (.cond (.t 29) f71b22 .skip) Q ts os := id rfl
def f71r24 : List AI := [⟨none, (.faddr 22 1 (.t 1))⟩, ⟨none, (.load 23 1 false (.t 22))⟩, ⟨none, (.bin 24 .lss (.t 23) (.v (.k (.c (.int .i64 0)))))⟩, ⟨none, (.mov 25 (.t 24))⟩, ⟨(some (25, false)), (.faddr 26 1 (.t 1))⟩, ⟨(some (25, false)), (.load 27 1 false (.t 26))⟩, ⟨(some (25, false)), (.bin 28 .gtr (.t 27) (.v (.k (.c (.int .i64 1)))))⟩, ⟨none, (.pick 29 (.t 25) (.v (.k (.c (.bool true)))) (.t 28))⟩]
theorem uf71r24 : type_of% @f71r24.eq_1 := id @f71r24.eq_1
def f71b25 : AQ := (.seq (.region f71r24) f71b23)
theorem uf71b25 (P ts os Q) : awl P f71b25 Q ts os = awl P (.seq (.region f71r24) f71b23) Q ts os := id rfl
def f71b26 : AQ := (.seq f71b25 f71b20)
theorem uf71b26 (P ts os Q) : awl P f71b26 Q ts os = awl P (.seq f71b25 f71b20) Q ts os := id rfl
def f71b27 : AQ := (.cond (.t 20) f71b26 .skip)
theorem uf71b27 (P ts os Q) : awl P f71b27 Q ts os = awl P (.cond (.t 20) f71b26 .skip) Q ts os := id rfl
def f71r28 : List AI := [⟨none, (.bin 21 .eql (.t 11) (.v (.k (.c (.int .i64 1)))))⟩, ⟨none, (.mov 20 (.t 21))⟩]
theorem uf71r28 : type_of% @f71r28.eq_1 := id @f71r28.eq_1
def f71b29 : AQ := (.seq (.region f71r28) f71b27)
theorem uf71b29 (P ts os Q) : awl P f71b29 Q ts os = awl P (.seq (.region f71r28) f71b27) Q ts os := id rfl
def f71b30 : AQ := (.cond (.t 12) f71b18 f71b29)
theorem uf71b30 (P ts os Q) : awl P f71b30 Q ts os = awl P (.cond (.t 12) f71b18 f71b29) Q ts os := id rfl
def f71r31 : List AI := [⟨none, (.bin 13 .eql (.t 11) (.v (.k (.c (.int .i64 0)))))⟩, ⟨none, (.mov 12 (.t 13))⟩]
theorem uf71r31 : type_of% @f71r31.eq_1 := id @f71r31.eq_1
def f71b32 : AQ := (.seq (.region f71r31) f71b30)
theorem uf71b32 (P ts os Q) : awl P f71b32 Q ts os = awl P (.seq (.region f71r31) f71b30) Q ts os := id rfl
def f71b33 : AQ := (.block 0 f71b32)
theorem uf71b33 (P ts os Q) : awl P f71b33 Q ts os = awl P (.block 0 f71b32) Q ts os := id rfl
def f71r34 : List AI := [⟨none, (.faddr 10 0 (.t 1))⟩, ⟨none, (.load 11 1 false (.t 10))⟩]
theorem uf71r34 : type_of% @f71r34.eq_1 := id @f71r34.eq_1
def f71b35 : AQ := (.seq (.region f71r34) f71b33)
theorem uf71b35 (P ts os Q) : awl P f71b35 Q ts os = awl P (.seq (.region f71r34) f71b33) Q ts os := id rfl
def f71b36 : AQ := (.seq f71b35 f71b10)
theorem uf71b36 (P ts os Q) : awl P f71b36 Q ts os = awl P (.seq f71b35 f71b10) Q ts os := id rfl
def f71r37 : List AI := [⟨none, (.mov 2 (.v (.k (.c (.int .i64 0)))))⟩, ⟨none, (.mov 3 (.v (.k (.c (.int .i64 2)))))⟩]
theorem uf71r37 : type_of% @f71r37.eq_1 := id @f71r37.eq_1
def f71b38 : AQ := (.seq (.region f71r37) .ret)
theorem uf71b38 (P ts os Q) : awl P f71b38 Q ts os = awl P (.seq (.region f71r37) .ret) Q ts os := id rfl
def f71b39 : AQ := (.cond (.t 9) f71b38 .skip)
theorem uf71b39 (P ts os Q) : awl P f71b39 Q ts os = awl P (.cond (.t 9) f71b38 .skip) Q ts os := id rfl
def f71r40 : List AI := [⟨none, (.faddr 6 2 (.t 1))⟩, ⟨none, (.load 7 1 false (.t 6))⟩, ⟨none, (.len 8 (.t 7))⟩, ⟨none, (.bin 9 .gtr (.t 8) (.v (.k (.c (.int .i64 0)))))⟩]
theorem uf71r40 : type_of% @f71r40.eq_1 := id @f71r40.eq_1
def f71b41 : AQ := (.seq (.region f71r40) f71b39)
theorem uf71b41 (P ts os Q) : awl P f71b41 Q ts os = awl P (.seq (.region f71r40) f71b39) Q ts os := id rfl
def f71b42 : AQ := (.seq f71b41 f71b36)
theorem uf71b42 (P ts os Q) : awl P f71b42 Q ts os = awl P (.seq f71b41 f71b36) Q ts os := id rfl
def f71r43 : List AI := [⟨none, (.box 1 41 (.t 0))⟩, ⟨none, (.mov 2 (.v (.k (.c (.int .i64 0)))))⟩, ⟨none, (.mov 3 (.v (.k (.c (.int .i64 0)))))⟩]
theorem uf71r43 : type_of% @f71r43.eq_1 := id @f71r43.eq_1
def f71b44 : AQ := (.seq (.region f71r43) f71b42)
theorem uf71b44 (P ts os Q) : awl P f71b44 Q ts os = awl P (.seq (.region f71r43) f71b42) Q ts os := id rfl
def f71 : AQ := f71b44
theorem uf71 (P ts os Q) : awl P f71 Q ts os = awl P f71b44 Q ts os := id rfl
theorem hf71 : cFunc Try.prog 71 = some ⟨39, f71.erase, [(RX.t 2), (RX.t 3)]⟩ := by kernel_rfl
theorem okf71 : f71.ok = true := by kernel_rfl
def f72r1 : List AI := [⟨none, (.bslice 25 3 1 [(.int .i64 0)] 2 [(0, (.v (.k (.c (.int .i64 0))))), (1, (.v (.k (.c (.int .i64 0)))))])⟩, ⟨none, (.build 26 [(.list 0 (some true) []), (.int .i64 0)] [(0, (1, (.t 25))), (1, (1, (.v (.k (.c (.int .i64 0))))))])⟩, ⟨none, (.store 2 (.t 2) (.t 26))⟩]
theorem uf72r1 : type_of% @f72r1.eq_1 := id @f72r1.eq_1
def f72b2 : AQ := (.seq (.region f72r1) .ret)
theorem uf72b2 (P ts os Q) : awl P f72b2 Q ts os = awl P (.seq (.region f72r1) .ret) Q ts os := id rfl
def f72r3 : List AI := [⟨none, (.bslice 6 3 1 [(.int .i64 0)] 1 [(0, (.v (.k (.c (.int .i64 1)))))])⟩, ⟨none, (.build 7 [(.list 0 (some true) []), (.int .i64 0)] [(0, (1, (.t 6))), (1, (1, (.v (.k (.c (.int .i64 1))))))])⟩, ⟨none, (.store 2 (.t 2) (.t 7))⟩]
theorem uf72r3 : type_of% @f72r3.eq_1 := id @f72r3.eq_1
def f72b4 : AQ := (.seq (.region f72r3) .ret)
theorem uf72b4 (P ts os Q) : awl P f72b4 Q ts os = awl P (.seq (.region f72r3) .ret) Q ts os := id rfl
def f72r5 : List AI := [⟨none, (.bslice 11 3 1 [(.int .i64 0)] 2 [(0, (.v (.k (.c (.int .i64 1))))), (1, (.v (.k (.c (.int .i64 1)))))])⟩, ⟨none, (.build 12 [(.list 0 (some true) []), (.int .i64 0)] [(0, (1, (.t 11))), (1, (1, (.v (.k (.c (.int .i64 1))))))])⟩, ⟨none, (.store 2 (.t 2) (.t 12))⟩]
theorem uf72r5 : type_of% @f72r5.eq_1 := id @f72r5.eq_1
def f72b6 : AQ := (.seq (.region f72r5) .ret)
theorem uf72b6 (P ts os Q) : awl P f72b6 Q ts os = awl P (.seq (.region f72r5) .ret) Q ts os := id rfl
def f72r7 : List AI := [⟨none, (.bslice 15 3 1 [(.int .i64 0)] 3 [(0, (.v (.k (.c (.int .i64 1))))), (1, (.v (.k (.c (.int .i64 (-1)))))), (2, (.v (.k (.c (.int .i64 (-1))))))])⟩, (AI.mk none (.build 16 [(.list 0 (some true) []), (.int .i64 0)] [(0, (1, (.t 15))), (1, (1, (.v (.k (.c (.int .i64 (-1)))))))])), ⟨none, (.store 2 (.t 2) (.t 16))⟩]
theorem uf72r7 : type_of% @f72r7.eq_1 := id @f72r7.eq_1
def f72b8 : AQ := (.seq (.region f72r7) .ret)
theorem uf72b8 (P ts os Q) : awl P f72b8 Q ts os = awl P (.seq (.region f72r7) .ret) Q ts os := id rfl
def f72r9 : List AI := [⟨none, (.bslice 19 3 1 [(.int .i64 0)] 2 [(0, (.v (.k (.c (.int .i64 0))))), (1, (.v (.k (.c (.int .i64 0)))))])⟩, ⟨none, (.build 20 [(.list 0 (some true) []), (.int .i64 0)] [(0, (1, (.t 19))), (1, (1, (.v (.k (.c (.int .i64 1))))))])⟩, ⟨none, (.store 2 (.t 2) (.t 20))⟩]
theorem uf72r9 : type_of% @f72r9.eq_1 := id @f72r9.eq_1
def f72b10 : AQ := (.seq (.region f72r9) .ret)
theorem uf72b10 (P ts os Q) : awl P f72b10 Q ts os = awl P (.seq (.region f72r9) .ret) Q ts os := id rfl
def f72r11 : List AI := [⟨none, (.bslice 23 3 1 [(.int .i64 0)] 2 [(0, (.v (.k (.c (.int .i64 (-1)))))), (1, (.v (.k (.c (.int .i64 (-1))))))])⟩, ⟨none, (.build 24 [(.list 0 (some true) []), (.int .i64 0)] [(0, (1, (.t 23))), (1, (1, (.v (.k (.c (.int .i64 1))))))])⟩, ⟨none, (.store 2 (.t 2) (.t 24))⟩]
theorem uf72r11 : type_of% @f72r11.eq_1 := id @f72r11.eq_1
def f72b12 : AQ := (.seq (.region f72r11) .ret)
theorem uf72b12 (P ts os Q) : awl P f72b12 Q ts os = awl P (.seq (.region f72r11) .ret) Q ts os := id rfl
def f72b13 : AQ := (.cond (.t 21) f72b12 .skip)
theorem uf72b13 (P ts os Q) : awl P f72b13 Q ts os = awl P (.cond (.t 21) f72b12 .skip) Q ts os := id rfl
def f72r14 : List AI := [⟨none, (.bin 22 .eql (.t 3) (.v (.k (.c (.int .i64 8)))))⟩, ⟨none, (.mov 21 (.t 22))⟩]
theorem uf72r14 : type_of% @f72r14.eq_1 := id @f72r14.eq_1
def f72b15 : AQ := (.seq (.region f72r14) f72b13)
theorem uf72b15 (P ts os Q) : awl P f72b15 Q ts os = awl P (.seq (.region f72r14) f72b13) Q ts os := id rfl
def f72b16 : AQ := (.cond (.t 17) f72b10 f72b15)
theorem uf72b16 (P ts os Q) : awl P f72b16 Q ts os = awl P (.cond (.t 17) f72b10 f72b15) Q ts os := id rfl
def f72r17 : List AI := [⟨none, (.bin 18 .eql (.t 3) (.v (.k (.c (.int .i64 7)))))⟩, ⟨none, (.mov 17 (.t 18))⟩]
theorem uf72r17 : type_of% @f72r17.eq_1 := id @f72r17.eq_1
def f72b18 : AQ := (.seq (.region f72r17) f72b16)
theorem uf72b18 (P ts os Q) : awl P f72b18 Q ts os = awl P (.seq (.region f72r17) f72b16) Q ts os := id rfl
def f72b19 : AQ := (.cond (.t 13) f72b8 f72b18)
theorem uf72b19 (P ts os Q) : awl P f72b19 Q ts os = awl P (.cond (.t 13) f72b8 f72b18) Q ts os := id rfl
def f72r20 : List AI := [⟨none, (.bin 14 .eql (.t 3) (.v (.k (.c (.int .i64 6)))))⟩, ⟨none, (.mov 13 (.t 14))⟩]
theorem uf72r20 : type_of% @f72r20.eq_1 := id @f72r20.eq_1
def f72b21 : AQ := (.seq (.region f72r20) f72b19)
theorem uf72b21 (P ts os Q) : awl P f72b21 Q ts os = awl P (.seq (.region f72r20) f72b19) Q ts os := id rfl
def f72b22 : AQ := (.cond (.t 8) f72b6 f72b21)
theorem uf72b22 (P ts os Q) : awl P f72b22 Q ts os = awl P (.cond (.t 8) f72b6 f72b21) Q ts os := id rfl
def f72r23 : List AI := [⟨none, (.bin 10 .eql (.t 3) (.v (.k (.c (.int .i64 5)))))⟩, ⟨none, (.mov 8 (.t 10))⟩]
theorem uf72r23 : type_of% @f72r23.eq_1 := id @f72r23.eq_1
def f72b24 : AQ := (.cond (.t 8) .skip (.region f72r23))
theorem uf72b24 (P ts os Q) : awl P f72b24 Q ts os = awl P (.cond (.t 8) .skip (.region f72r23)) Q ts os := id rfl
def f72r25 : List AI := [⟨none, (.bin 9 .eql (.t 3) (.v (.k (.c (.int .i64 4)))))⟩, ⟨none, (.mov 8 (.t 9))⟩]
theorem uf72r25 : type_of% @f72r25.eq_1 := id @f72r25.eq_1
def f72b26 : AQ := (.seq (.region f72r25) f72b24)
theorem uf72b26 (P ts os Q) : awl P f72b26 Q ts os = awl P (.seq (.region f72r25) f72b24) Q ts os := id rfl
def f72b27 : AQ := (.seq f72b26 f72b22)
theorem uf72b27 (P ts os Q) : awl P f72b27 Q ts os = awl P (.seq f72b26 f72b22) Q ts os := id rfl
def f72b28 : AQ := (.cond (.t 4) f72b4 f72b27)
theorem uf72b28 (P ts os Q) : awl P f72b28 Q ts os = awl P (.cond (.t 4) f72b4 f72b27) Q ts os := id rfl
def f72r29 : List AI := [⟨none, (.bin 5 .eql (.t 3) (.v (.k (.c (.int .i64 3)))))⟩, ⟨none, (.mov 4 (.t 5))⟩]
theorem uf72r29 : type_of% @f72r29.eq_1 := id @f72r29.eq_1
def f72b30 : AQ := (.seq (.region f72r29) f72b28)
theorem uf72b30 (P ts os Q) : awl P f72b30 Q ts os = awl P (.seq (.region f72r29) f72b28) Q ts os := id rfl
def f72b31 : AQ := (.block 0 f72b30)
theorem uf72b31 (P ts os Q) : awl P f72b31 Q ts os = awl P (.block 0 f72b30) Q ts os := id rfl
def f72r32 : List AI := [⟨none, (.mov 3 (.t 0))⟩]
theorem uf72r32 : type_of% @f72r32.eq_1 := id @f72r32.eq_1
def f72b33 : AQ := (.seq (.region f72r32) f72b31)
theorem uf72b33 (P ts os Q) : awl P f72b33 Q ts os = awl P (.seq (.region f72r32) f72b31) Q ts os := id rfl
def f72b34 : AQ := (.seq f72b33 f72b2)
theorem uf72b34 (P ts os Q) : awl P f72b34 Q ts os = awl P (.seq f72b33 f72b2) Q ts os := id rfl
def f72r35 : List AI := [⟨none, (.alloc 2 92 [(.list 0 (some true) []), (.int .i64 0)])⟩]
theorem uf72r35 : type_of% @f72r35.eq_1 := id @f72r35.eq_1
def f72b36 : AQ := (.seq (.region f72r35) f72b34)
theorem uf72b36 (P ts os Q) : awl P f72b36 Q ts os = awl P (.seq (.region f72r35) f72b34) Q ts os := id rfl
def f72 : AQ := f72b36
theorem uf72 (P ts os Q) : awl P f72 Q ts os = awl P f72b36 Q ts os := id rfl
theorem hf72 : cFunc Try.prog 72 = some ⟨27, f72.erase, [(RX.cell 2 2 true)]⟩ := by kernel_rfl
theorem okf72 : f72.ok = true := by kernel_rfl
def f93r1 : List AI := [⟨none, (.mov 3 (.t 0))⟩, ⟨none, (.minmax 4 true (.t 3) [(.v (.k (.c (.int .i64 (-1099511627776)))))])⟩, ⟨none, (.minmax 5 false (.t 4) [(.v (.k (.c (.int .i64 1099511627776))))])⟩, ⟨none, (.mov 2 (.t 5))⟩]
theorem uf93r1 : type_of% @f93r1.eq_1 := id @f93r1.eq_1
def f93b2 : AQ := (.seq (.region f93r1) .ret)
theorem uf93b2 (P ts os Q) : awl P f93b2 Q ts os = awl P (.seq (.region f93r1) .ret) Q ts os := id rfl
def f93r3 : List AI := [⟨none, (.mov 2 (.v (.k (.c (.int .i64 0)))))⟩]
theorem uf93r3 : type_of% @f93r3.eq_1 := id @f93r3.eq_1
def f93b4 : AQ := (.seq (.region f93r3) f93b2)
theorem uf93b4 (P ts os Q) : awl P f93b4 Q ts os = awl P (.seq (.region f93r3) f93b2) Q ts os := id rfl
def f93 : AQ := f93b4
theorem uf93 (P ts os Q) : awl P f93 Q ts os = awl P f93b4 Q ts os := id rfl
theorem hf93 : cFunc Try.prog 93 = some ⟨6, f93.erase, [(RX.t 2)]⟩ := by kernel_rfl
theorem okf93 : f93.ok = true := by kernel_rfl
def f4r1 : List AI := [⟨none, (.mov 128 (.t 7))⟩, ⟨none, (.mov 129 (.t 128))⟩, ⟨(some (129, true)), (.load 130 4 true (.t 13))⟩, ⟨(some (129, true)), (.call (some 131) 20 [(.t 130)])⟩, ⟨(some (129, true)), (.bin 132 .eql (.t 131) (.v (.k (.c (.int .i64 1)))))⟩, ⟨none, (.pick 133 (.t 129) (.t 132) (.v (.k (.c (.bool false)))))⟩, ⟨none, (.mov 134 (.t 133))⟩, ⟨(some (134, true)), (.load 135 4 true (.t 14))⟩, ⟨(some (134, true)), (.call (some 136) 20 [(.t 135)])⟩, ⟨(some (134, true)), (.bin 137 .eql (.t 136) (.v (.k (.c (.int .i64 1)))))⟩, ⟨(some (134, true)), (.mov 138 (.t 15))⟩, ⟨(some (134, true)), (.binB 139 false (.t 137) (.t 138))⟩, ⟨none, (.pick 140 (.t 134) (.t 139) (.v (.k (.c (.bool false)))))⟩, ⟨none, (.mov 6 (.t 140))⟩]
theorem uf4r1 : type_of% @f4r1.eq_1 := id @f4r1.eq_1
def f4b2 : AQ := (.seq (.region f4r1) .ret)
theorem uf4b2 (P ts os Q) : awl P f4b2 Q ts os = awl P (.seq (.region f4r1) .ret) Q ts os := id rfl
def f4r3 : List AI := [⟨none, (.mov 122 (.t 2))⟩, ⟨none, (.bin 123 .lss (.t 122) (.v (.k (.c (.int .i64 0)))))⟩, ⟨none, (.mov 124 (.t 123))⟩, ⟨(some (124, false)), (.mov 125 (.t 2))⟩, ⟨(some (124, false)), (.bin 126 .geq (.t 125) (.v (.k (.c (.int .i64 5)))))⟩, ⟨none, (.pick 127 (.t 124) (.v (.k (.c (.bool true)))) (.t 126))⟩, ⟨none, (.mov 15 (.t 127))⟩]
theorem uf4r3 : type_of% @f4r3.eq_1 := id @f4r3.eq_1
def f4b4 : AQ := (.seq (.region f4r3) f4b2)
theorem uf4b4 (P ts os Q) : awl P f4b4 Q ts os = awl P (.seq (.region f4r3) f4b2) Q ts os := id rfl
def f4r5 : List AI := [⟨none, (.faddr 116 2 (.t 14))⟩, ⟨none, (.load 117 1 false (.t 116))⟩, ⟨none, (.mov 118 (.t 12))⟩, ⟨none, (.mov 119 (.t 2))⟩, ⟨none, (.iaddr 120 3 (.t 117) (.t 118))⟩, ⟨none, (.faddr 121 1 (.t 120))⟩, ⟨none, (.store 1 (.t 121) (.t 119))⟩]
theorem uf4r5 : type_of% @f4r5.eq_1 := id @f4r5.eq_1
def f4b6 : AQ := (.seq (.region f4r5) f4b4)
theorem uf4b6 (P ts os Q) : awl P f4b6 Q ts os = awl P (.seq (.region f4r5) f4b4) Q ts os := id rfl
def f4r7 : List AI := [⟨none, (.bslice 111 45 3 [(.int .i64 0), (.int .i64 0), (.bool false)] 0 [])⟩, ⟨none, (.faddr 112 2 (.t 3))⟩, ⟨none, (.load 113 1 false (.t 112))⟩, ⟨none, (.append 114 45 3 24 (.t 111) (.t 113))⟩, ⟨none, (.faddr 115 2 (.t 14))⟩, ⟨none, (.store 1 (.t 115) (.t 114))⟩]
theorem uf4r7 : type_of% @f4r7.eq_1 := id @f4r7.eq_1
def f4b8 : AQ := (.seq (.region f4r7) f4b6)
theorem uf4b8 (P ts os Q) : awl P f4b8 Q ts os = awl P (.seq (.region f4r7) f4b6) Q ts os := id rfl
def f4r9 : List AI := [⟨none, (.load 110 4 true (.t 3))⟩, ⟨none, (.alloc 14 25 [(.str []), (.bool false), (.list 0 (some true) []), (.list 0 (some true) [])])⟩, ⟨none, (.store 4 (.t 14) (.t 110))⟩]
theorem uf4r9 : type_of% @f4r9.eq_1 := id @f4r9.eq_1
def f4b10 : AQ := (.seq (.region f4r9) f4b8)
theorem uf4b10 (P ts os Q) : awl P f4b10 Q ts os = awl P (.seq (.region f4r9) f4b8) Q ts os := id rfl
def f4r11 : List AI := [⟨none, (.bslice 97 45 3 [(.int .i64 0), (.int .i64 0), (.bool false)] 0 [])⟩, ⟨none, (.faddr 98 2 (.t 3))⟩, ⟨none, (.load 99 1 false (.t 98))⟩, ⟨none, (.mov 100 (.t 12))⟩, ⟨none, (.bin 101 .add (.t 100) (.v (.k (.c (.int .i64 1)))))⟩, ⟨none, (.slice 102 3 (.t 99) none (some (.t 101)))⟩, ⟨none, (.append 103 45 3 24 (.t 97) (.t 102))⟩, ⟨none, (.faddr 104 2 (.t 3))⟩, ⟨none, (.load 105 1 false (.t 104))⟩, ⟨none, (.mov 106 (.t 12))⟩, ⟨none, (.slice 107 3 (.t 105) (some (.t 106)) none)⟩, ⟨none, (.append 108 45 3 24 (.t 103) (.t 107))⟩, ⟨none, (.faddr 109 2 (.t 13))⟩, ⟨none, (.store 1 (.t 109) (.t 108))⟩]
theorem uf4r11 : type_of% @f4r11.eq_1 := id @f4r11.eq_1
def f4b12 : AQ := (.seq (.draw f4r11 [[], [], [1], [], [3], [2, 4], [0, 5], [], [7], [], [8, 9], [6, 10, 6], [0, 1, 2, 3, 4, 5, 6, 7, 8, 9, 10, 11], [12, 11, 11, 0, 1, 2, 3, 4, 5, 6, 7, 8, 9, 10, 11]]) f4b10)
theorem uf4b12 (P ts os Q) : awl P f4b12 Q ts os = awl P (.seq (.draw f4r11 [[], [], [1], [], [3], [2, 4], [0, 5], [], [7], [], [8, 9], [6, 10, 6], [0, 1, 2, 3, 4, 5, 6, 7, 8, 9, 10, 11], [12, 11, 11, 0, 1, 2, 3, 4, 5, 6, 7, 8, 9, 10, 11]]) f4b10) Q ts os := id rfl
def f4r13 : List AI := [⟨none, (.load 96 4 true (.t 3))⟩, ⟨none, (.alloc 13 25 [(.str []), (.bool false), (.list 0 (some true) []), (.list 0 (some true) [])])⟩, ⟨none, (.store 4 (.t 13) (.t 96))⟩]
theorem uf4r13 : type_of% @f4r13.eq_1 := id @f4r13.eq_1
def f4b14 : AQ := (.seq (.region f4r13) f4b12)
theorem uf4b14 (P ts os Q) : awl P f4b14 Q ts os = awl P (.seq (.region f4r13) f4b12) Q ts os := id rfl
def f4r15 : List AI := [⟨none, (.mov 90 (.t 1))⟩, ⟨none, (.conv 91 .i64 (.t 90))⟩, ⟨none, (.faddr 92 2 (.t 3))⟩, ⟨none, (.load 93 1 false (.t 92))⟩, ⟨none, (.len 94 (.t 93))⟩, ⟨none, (.bin 95 .rem (.t 91) (.t 94))⟩, ⟨none, (.mov 12 (.t 95))⟩]
theorem uf4r15 : type_of% @f4r15.eq_1 := id @f4r15.eq_1
def f4b16 : AQ := (.seq (.region f4r15) f4b14)
theorem uf4b16 (P ts os Q) : awl P f4b16 Q ts os = awl P (.seq (.region f4r15) f4b14) Q ts os := id rfl
def f4r17 : List AI := [⟨none, (.mov 89 (.t 7))⟩, ⟨none, (.mov 6 (.t 89))⟩]
theorem uf4r17 : type_of% @f4r17.eq_1 := id @f4r17.eq_1
def f4b18 : AQ := (.seq (.region f4r17) .ret)
theorem uf4b18 (P ts os Q) : awl P f4b18 Q ts os = awl P (.seq (.region f4r17) .ret) Q ts os := id rfl
def f4b19 : AQ := (.cond (.t 88) f4b18 .skip)
theorem uf4b19 (P ts os Q) : awl P f4b19 Q ts os = awl P (.cond (.t 88) f4b18 .skip) Q ts os := id rfl
def f4r20 : List AI := [⟨none, (.faddr 85 2 (.t 3))⟩, ⟨none, (.load 86 1 false (.t 85))⟩, ⟨none, (.len 87 (.t 86))⟩, ⟨none, (.bin 88 .eql (.t 87) (.v (.k (.c (.int .i64 0)))))⟩]
theorem uf4r20 : type_of% @f4r20.eq_1 := id @f4r20.eq_1
def f4b21 : AQ := (.seq (.region f4r20) f4b19)
theorem uf4b21 (P ts os Q) : awl P f4b21 Q ts os = awl P (.seq (.region f4r20) f4b19) Q ts os := id rfl
def f4b22 : AQ := (.seq f4b21 f4b16)
theorem uf4b22 (P ts os Q) : awl P f4b22 Q ts os = awl P (.seq f4b21 f4b16) Q ts os := id rfl
def f4r23 : List AI := [⟨none, (.mov 6 (.v (.k (.c (.bool false)))))⟩]
def f4b24 : AQ := (.seq (.region f4r23) .ret)
def f4b25 : AQ := (.cond (.t 84) f4b24 .skip)
theorem uf4b25 (P ts os Q) : awl P f4b25 Q ts os = awl P (.cond (.t 84) f4b24 .skip) Q ts os := id rfl
def f4r26 : List AI := [⟨none, (.load 82 4 true (.t 11))⟩, ⟨none, (.call (some 83) 20 [(.t 82)])⟩, ⟨none, (.bin 84 .neq (.t 83) (.v (.k (.c (.int .i64 1)))))⟩]
theorem uf4r26 : type_of% @f4r26.eq_1 := id @f4r26.eq_1
def f4b27 : AQ := (.seq (.region f4r26) f4b25)
theorem uf4b27 (P ts os Q) : awl P f4b27 Q ts os = awl P (.seq (.region f4r26) f4b25) Q ts os := id rfl
def f4r28 : List AI := [⟨none, (.bslice 69 43 4 [(.int .i64 0), (.int .i64 0), (.int .i64 0), (.list 0 (some true) [])] 0 [])⟩, ⟨none, (.faddr 70 3 (.t 3))⟩, ⟨none, (.load 71 1 false (.t 70))⟩, ⟨none, (.mov 72 (.t 8))⟩, ⟨none, (.bin 73 .add (.t 72) (.v (.k (.c (.int .i64 1)))))⟩, ⟨none, (.slice 74 4 (.t 71) none (some (.t 73)))⟩, ⟨none, (.append 75 43 4 48 (.t 69) (.t 74))⟩, ⟨none, (.faddr 76 3 (.t 3))⟩, ⟨none, (.load 77 1 false (.t 76))⟩, ⟨none, (.mov 78 (.t 8))⟩, ⟨none, (.slice 79 4 (.t 77) (some (.t 78)) none)⟩, ⟨none, (.append 80 43 4 48 (.t 75) (.t 79))⟩, ⟨none, (.faddr 81 3 (.t 11))⟩, ⟨none, (.store 1 (.t 81) (.t 80))⟩]
theorem uf4r28 : type_of% @f4r28.eq_1 := id @f4r28.eq_1
def f4b29 : AQ := (.seq (.draw f4r28 [[], [], [1], [], [3], [2, 4], [0, 5], [], [7], [], [8, 9], [6, 10, 6], [0, 1, 2, 3, 4, 5, 6, 7, 8, 9, 10, 11], [12, 11, 11, 0, 1, 2, 3, 4, 5, 6, 7, 8, 9, 10, 11]]) f4b27)
theorem uf4b29 (P ts os Q) : awl P f4b29 Q ts os = awl P (.seq (.draw f4r28 [[], [], [1], [], [3], [2, 4], [0, 5], [], [7], [], [8, 9], [6, 10, 6], [0, 1, 2, 3, 4, 5, 6, 7, 8, 9, 10, 11], [12, 11, 11, 0, 1, 2, 3, 4, 5, 6, 7, 8, 9, 10, 11]]) f4b27) Q ts os := id rfl
def f4r30 : List AI := [⟨none, (.mov 6 (.v (.k (.c (.bool false)))))⟩]
def f4b31 : AQ := (.seq (.region f4r30) .ret)
def f4b32 : AQ := (.cond (.t 68) f4b31 .skip)
theorem uf4b32 (P ts os Q) : awl P f4b32 Q ts os = awl P (.cond (.t 68) f4b31 .skip) Q ts os := id rfl
def f4r33 : List AI := [⟨none, (.load 66 4 true (.t 11))⟩, ⟨none, (.call (some 67) 20 [(.t 66)])⟩, ⟨none, (.bin 68 .neq (.t 67) (.v (.k (.c (.int .i64 11)))))⟩]
theorem uf4r33 : type_of% @f4r33.eq_1 := id @f4r33.eq_1
def f4b34 : AQ := (.seq (.region f4r33) f4b32)
theorem uf4b34 (P ts os Q) : awl P f4b34 Q ts os = awl P (.seq (.region f4r33) f4b32) Q ts os := id rfl
def f4b35 : AQ := (.seq f4b34 f4b29)
theorem uf4b35 (P ts os Q) : awl P f4b35 Q ts os = awl P (.seq f4b34 f4b29) Q ts os := id rfl
def f4r36 : List AI := [⟨none, (.faddr 60 3 (.t 11))⟩, ⟨none, (.load 61 1 false (.t 60))⟩, ⟨none, (.mov 62 (.t 8))⟩, ⟨none, (.build 63 [(.int .i64 0), (.int .i64 0), (.list 0 (some true) [])] [(0, (1, (.v (.k (.c (.int .i64 0))))))])⟩, ⟨none, (.iaddr 64 4 (.t 61) (.t 62))⟩, ⟨none, (.faddr 65 1 (.t 64))⟩, ⟨none, (.store 3 (.t 65) (.t 63))⟩]
theorem uf4r36 : type_of% @f4r36.eq_1 := id @f4r36.eq_1
def f4b37 : AQ := (.cond (.t 59) (.region f4r36) .skip)
theorem uf4b37 (P ts os Q) : awl P f4b37 Q ts os = awl P (.cond (.t 59) (.region f4r36) .skip) Q ts os := id rfl
def f4r38 : List AI := [⟨none, (.mov 58 (.t 9))⟩, ⟨none, (.bin 59 .eql (.t 58) (.v (.k (.c (.int .i64 1)))))⟩]
theorem uf4r38 : type_of% @f4r38.eq_1 := id @f4r38.eq_1
def f4b39 : AQ := (.seq (.region f4r38) f4b37)
theorem uf4b39 (P ts os Q) : awl P f4b39 Q ts os = awl P (.seq (.region f4r38) f4b37) Q ts os := id rfl
def f4b40 : AQ := (.seq f4b39 f4b35)
theorem uf4b40 (P ts os Q) : awl P f4b40 Q ts os = awl P (.seq f4b39 f4b35) Q ts os := id rfl
def f4r41 : List AI := [⟨none, (.faddr 52 3 (.t 11))⟩, ⟨none, (.load 53 1 false (.t 52))⟩, ⟨none, (.mov 54 (.t 8))⟩, ⟨none, (.build 55 [(.int .i64 0), (.int .i64 0), (.list 0 (some true) [])] [(0, (1, (.v (.k (.c (.int .i64 1))))))])⟩, ⟨none, (.iaddr 56 4 (.t 53) (.t 54))⟩, ⟨none, (.faddr 57 1 (.t 56))⟩, ⟨none, (.store 3 (.t 57) (.t 55))⟩]
theorem uf4r41 : type_of% @f4r41.eq_1 := id @f4r41.eq_1
def f4b42 : AQ := (.seq (.region f4r41) f4b40)
theorem uf4b42 (P ts os Q) : awl P f4b42 Q ts os = awl P (.seq (.region f4r41) f4b40) Q ts os := id rfl
def f4r43 : List AI := [⟨none, (.bslice 47 43 4 [(.int .i64 0), (.int .i64 0), (.int .i64 0), (.list 0 (some true) [])] 0 [])⟩, ⟨none, (.faddr 48 3 (.t 3))⟩, ⟨none, (.load 49 1 false (.t 48))⟩, ⟨none, (.append 50 43 4 48 (.t 47) (.t 49))⟩, ⟨none, (.faddr 51 3 (.t 11))⟩, ⟨none, (.store 1 (.t 51) (.t 50))⟩]
theorem uf4r43 : type_of% @f4r43.eq_1 := id @f4r43.eq_1
def f4b44 : AQ := (.seq (.region f4r43) f4b42)
theorem uf4b44 (P ts os Q) : awl P f4b44 Q ts os = awl P (.seq (.region f4r43) f4b42) Q ts os := id rfl
def f4r45 : List AI := [⟨none, (.load 46 4 true (.t 3))⟩, ⟨none, (.alloc 11 25 [(.str []), (.bool false), (.list 0 (some true) []), (.list 0 (some true) [])])⟩, ⟨none, (.store 4 (.t 11) (.t 46))⟩]
theorem uf4r45 : type_of% @f4r45.eq_1 := id @f4r45.eq_1
def f4b46 : AQ := (.seq (.region f4r45) f4b44)
theorem uf4b46 (P ts os Q) : awl P f4b46 Q ts os = awl P (.seq (.region f4r45) f4b44) Q ts os := id rfl
def f4r47 : List AI := [⟨none, (.faddr 37 3 (.t 3))⟩, ⟨none, (.load 38 1 false (.t 37))⟩, ⟨none, (.mov 39 (.t 8))⟩, ⟨none, (.iaddr 40 4 (.t 38) (.t 39))⟩, ⟨none, (.faddr 41 0 (.t 40))⟩, ⟨none, (.load 42 1 false (.t 41))⟩, ⟨none, (.call (some 43) 16 [(.t 42)])⟩, ⟨none, (.mov 36 (.t 43))⟩, ⟨none, (.extr 44 (.t 36) 0)⟩, ⟨none, (.extr 45 (.t 36) 1)⟩, ⟨none, (.mov 9 (.t 44))⟩, ⟨none, (.mov 10 (.t 45))⟩]
theorem uf4r47 : type_of% @f4r47.eq_1 := id @f4r47.eq_1
def f4b48 : AQ := (.seq (.region f4r47) f4b46)
theorem uf4b48 (P ts os Q) : awl P f4b48 Q ts os = awl P (.seq (.region f4r47) f4b46) Q ts os := id rfl
def f4r49 : List AI := [⟨none, (.mov 30 (.t 1))⟩, ⟨none, (.conv 31 .i64 (.t 30))⟩, ⟨none, (.faddr 32 3 (.t 3))⟩, ⟨none, (.load 33 1 false (.t 32))⟩, ⟨none, (.len 34 (.t 33))⟩, ⟨none, (.bin 35 .rem (.t 31) (.t 34))⟩, ⟨none, (.mov 8 (.t 35))⟩]
theorem uf4r49 : type_of% @f4r49.eq_1 := id @f4r49.eq_1
def f4b50 : AQ := (.seq (.region f4r49) f4b48)
theorem uf4b50 (P ts os Q) : awl P f4b50 Q ts os = awl P (.seq (.region f4r49) f4b48) Q ts os := id rfl
def f4b51 : AQ := (.cond (.t 29) f4b50 .skip)
theorem uf4b51 (P ts os Q) : awl P f4b51 Q ts os = awl P (.cond (.t 29) f4b50 .skip) Q ts os := id rfl
def f4r52 : List AI := [⟨none, (.faddr 26 3 (.t 3))⟩, ⟨none, (.load 27 1 false (.t 26))⟩, ⟨none, (.len 28 (.t 27))⟩, ⟨none, (.bin 29 .gtr (.t 28) (.v (.k (.c (.int .i64 0)))))⟩]
theorem uf4r52 : type_of% @f4r52.eq_1 := id @f4r52.eq_1
def f4b53 : AQ := (.seq (.region f4r52) f4b51)
theorem uf4b53 (P ts os Q) : awl P f4b53 Q ts os = awl P (.seq (.region f4r52) f4b51) Q ts os := id rfl
def f4b54 : AQ := (.seq f4b53 (.keep [1, 2, 3, 7] [3] f4b22))
theorem uf4b54 (P ts os Q) : awl P f4b54 Q ts os = awl P (.seq f4b53 (.keep [1, 2, 3, 7] [3] f4b22)) Q ts os := id rfl
def f4r55 : List AI := [⟨none, (.mov 25 (.t 7))⟩, ⟨none, (.mov 6 (.t 25))⟩]
theorem uf4r55 : type_of% @f4r55.eq_1 := id @f4r55.eq_1
def f4b56 : AQ := (.seq (.region f4r55) .ret)
theorem uf4b56 (P ts os Q) : awl P f4b56 Q ts os = awl P (.seq (.region f4r55) .ret) Q ts os := id rfl
def f4b57 : AQ := (.cond (.t 24) f4b56 .skip)
theorem uf4b57 (P ts os Q) : awl P f4b57 Q ts os = awl P (.cond (.t 24) f4b56 .skip) Q ts os := id rfl
def f4r58 : List AI := [⟨none, (.load 17 4 true (.t 3))⟩, ⟨none, (.call (some 18) 15 [(.t 17)])⟩, ⟨none, (.un 19 .not (.t 18))⟩, ⟨none, (.mov 20 (.t 19))⟩, ⟨(some (20, false)), (.load 21 4 true (.t 3))⟩, ⟨(some (20, false)), (.call (some 22) 20 [(.t 21)])⟩, ⟨(some (20, false)), (.bin 23 .neq (.t 22) (.v (.k (.c (.int .i64 0)))))⟩, ⟨none, (.pick 24 (.t 20) (.v (.k (.c (.bool true)))) (.t 23))⟩]
theorem uf4r58 : type_of% @f4r58.eq_1 := id @f4r58.eq_1
def f4b59 : AQ := (.seq (.region f4r58) f4b57)
theorem uf4b59 (P ts os Q) : awl P f4b59 Q ts os = awl P (.seq (.region f4r58) f4b57) Q ts os := id rfl
def f4b60 : AQ := (.seq f4b59 f4b54)
theorem uf4b60 (P ts os Q) : awl P f4b60 Q ts os = awl P (.seq f4b59 f4b54) Q ts os := id rfl
def f4r61 : List AI := [⟨none, (.call (some 16) 14 [])⟩, ⟨none, (.mov 7 (.t 16))⟩]
theorem uf4r61 : type_of% @f4r61.eq_1 := id @f4r61.eq_1
def f4b62 : AQ := (.seq (.region f4r61) f4b60)
theorem uf4b62 (P ts os Q) : awl P f4b62 Q ts os = awl P (.seq (.region f4r61) f4b60) Q ts os := id rfl
def f4r63 : List AI := [⟨none, (.box 3 25 (.t 0))⟩, ⟨none, (.mov 6 (.v (.k (.c (.bool false)))))⟩]
theorem uf4r63 : type_of% @f4r63.eq_1 := id @f4r63.eq_1
def f4b64 : AQ := (.seq (.region f4r63) f4b62)
theorem uf4b64 (P ts os Q) : awl P f4b64 Q ts os = awl P (.seq (.region f4r63) f4b62) Q ts os := id rfl
def f4 : AQ := f4b64
theorem uf4 (P ts os Q) : awl P f4 Q ts os = awl P f4b64 Q ts os := id rfl
theorem hf4 : cFunc Try.prog 4 = some ⟨141, f4.erase, [(RX.t 6)]⟩ := by kernel_rfl
theorem okf4 : f4.ok = true := by kernel_rfl
end Go.Abs


namespace Go.Abs
theorem wrap_in {n : Int} (h1 : -9223372036854775808 ≤ n) (h2 : n ≤ 9223372036854775807) : IntKind.i64.wrap n = n := IntWalk.i64_in n ⟨h1, h2⟩
def lstC (sz : Nat) (rows : List (List C)) : C := .list (if rows.isEmpty then 0 else sz) none rows
abbrev lst (sz : Nat) (rows : List (List C)) : V := .k (.c (lstC sz rows))
def ints (l : List Int) : List (List C) := l.map fun n => [.int .i64 n]
theorem map_isEmpty {α β : Type} (f : α → β) (l : List α) : (l.map f).isEmpty = l.isEmpty := by cases l <;> rfl
theorem sz_of {α : Type} {l : List α} {i sz : Nat} (h : i < l.length) : (if l.isEmpty = true then 0 else sz) = sz := by cases l <;> simp at h ⊢
theorem map_at {α : Type} {f : α → List C} {l : List α} {i : Nat} (h : i < l.length) : (l.map f).getD i [] = f l[i] := by simp [h]
theorem map_len {α : Type} (f : α → List C) (l : List α) : (l.map f).length = l.length := by simp
theorem normRows_eq {α : Type} {f : α → List C} (hf : ∀ x, C.normRow (f x) = f x) (l : List α) : C.normRows (l.map f) = l.map f := by
  induction l with
  | nil => rfl
  | cons a l ih => simp [C.normRows, hf, ih]
theorem lstC_norm {α : Type} {f : α → List C} (hf : ∀ x, C.normRow (f x) = f x) (sz : Nat) (l : List α) : (lstC sz (l.map f)).norm = lstC sz (l.map f) := by
  unfold lstC
  simp only [C.norm, normRows_eq hf]
  cases l <;> simp
inductive Term where
  | mk (op n : Int) (args : List Term)
  deriving Inhabited
def Term.op : Term → Int | .mk o _ _ => o
def Term.n : Term → Int | .mk _ n _ => n
def Term.args : Term → List Term | .mk _ _ a => a
mutual
def encT : Term → List C
  | .mk o n a => [.int .i64 o, .int .i64 n, lstC 3 (encTs a)]
def encTs : List Term → List (List C)
  | [] => []
  | t :: l => encT t :: encTs l
end
theorem encTs_map : ∀ (l : List Term), encTs l = l.map encT
  | [] => rfl
  | t :: l => by simp [encTs, encTs_map l]
theorem encT_eq (t : Term) : encT t = [.int .i64 t.op, .int .i64 t.n, lstC 3 (t.args.map encT)] := by
  cases t with
  | mk o n a => simp [encT, Term.op, Term.n, Term.args, encTs_map]
mutual
theorem encT_norm : ∀ (t : Term), C.normRow (encT t) = encT t
  | .mk o n a => by
    simp only [encT, C.normRow, C.norm, lstC, encTs_norm a]
    cases a <;> simp [encTs]
theorem encTs_norm : ∀ (l : List Term), C.normRows (encTs l) = encTs l
  | [] => rfl
  | t :: l => by simp only [encTs, C.normRows, encT_norm t, encTs_norm l]
end
theorem encT_len (t : Term) : (encT t).length = 3 := by rw [encT_eq]; rfl
structure Choice where
  ask : Int
  by_ : Int
  whole : Bool
  deriving Inhabited
structure Rule where
  ask : Int
  term : Term
  deriving Inhabited
structure Order where
  name : List UInt8
  accepts : Bool
  choices : List Choice
  rules : List Rule
  deriving Inhabited
def encChoice (c : Choice) : List C := [.int .i64 c.ask, .int .i64 c.by_, .bool c.whole]
def encRule (r : Rule) : List C := .int .i64 r.ask :: encT r.term
def encOrder (o : Order) : List C := [.str o.name, .bool o.accepts, lstC 3 (o.choices.map encChoice), lstC 4 (o.rules.map encRule)]
theorem encChoice_norm (c : Choice) : C.normRow (encChoice c) = encChoice c := rfl
theorem encRule_norm (r : Rule) : C.normRow (encRule r) = encRule r := by simp [encRule, C.normRow, C.norm, encT_norm]
theorem encOrder_norm (o : Order) : C.normRow (encOrder o) = encOrder o := by
  simp only [encOrder, C.normRow, C.norm, lstC_norm encChoice_norm, lstC_norm encRule_norm]
structure Cell where
  known : Bool
  n : Int
  deriving Inhabited
def encCell (c : Cell) : List C := [.bool c.known, .int .i64 c.n]
theorem encCell_norm (c : Cell) : C.normRow (encCell c) = encCell c := rfl
def encI (n : Int) : List C := [.int .i64 n]
@[simp] theorem normRow_int (k : IntKind) (n : Int) : C.normRow [.int k n] = [.int k n] := rfl
@[simp] theorem normRow_encI (n : Int) : C.normRow (encI n) = encI n := rfl
attribute [simp] encT_norm encChoice_norm encRule_norm encOrder_norm encCell_norm C.normRow
@[simp] theorem norm_int (k : IntKind) (n : Int) : (C.int k n).norm = .int k n := rfl
@[simp] theorem norm_bool (b : Bool) : (C.bool b).norm = .bool b := rfl
@[simp] theorem norm_str (s : List UInt8) : (C.str s).norm = .str s := rfl
@[simp] theorem norm_ro (row : List C) (off : Nat) : (C.ro row off).norm = .ro (C.normRow row) off := rfl
@[simp] theorem norm_fn (f : FuncId) (caps : List C) : (C.fn f caps).norm = .fn f (C.normRow caps) := rfl
@[simp] theorem normRows_T (l : List Term) : C.normRows (l.map encT) = l.map encT := normRows_eq encT_norm l
@[simp] theorem normRows_Ch (l : List Choice) : C.normRows (l.map encChoice) = l.map encChoice := normRows_eq encChoice_norm l
@[simp] theorem normRows_R (l : List Rule) : C.normRows (l.map encRule) = l.map encRule := normRows_eq encRule_norm l
@[simp] theorem normRows_O (l : List Order) : C.normRows (l.map encOrder) = l.map encOrder := normRows_eq encOrder_norm l
@[simp] theorem normRows_Ce (l : List Cell) : C.normRows (l.map encCell) = l.map encCell := normRows_eq encCell_norm l
@[simp] theorem normRows_ints (l : List Int) : C.normRows (ints l) = ints l := normRows_eq (fun _ => rfl) l
@[simp] theorem normRows_nil : C.normRows [] = [] := rfl
@[simp] theorem normRows_cons (r : List C) (l : List (List C)) : C.normRows (r :: l) = C.normRow r :: C.normRows l := rfl
@[simp] theorem ints_len (l : List Int) : (ints l).length = l.length := by simp [ints]
theorem ints_at {l : List Int} {i : Nat} (h : i < l.length) : (ints l).getD i [] = [.int .i64 l[i]] := by simp [ints, h]
@[simp] theorem ints_isEmpty (l : List Int) : (ints l).isEmpty = l.isEmpty := by cases l <;> rfl
theorem ints_snoc (l : List Int) (n : Int) : ints l ++ [[.int .i64 n]] = ints (l ++ [n]) := by simp [ints]
theorem ints_append (l m : List Int) : ints l ++ ints m = ints (l ++ m) := by simp [ints]
theorem r_vLen_lst (o : Nat → Option O) (sz : Nat) (rows : List (List C)) : vLen o (.k (.c (lstC sz rows))) = some (True, .int .i64 rows.length) := rfl
theorem r_vIaddr_lst (o : Nat → Option O) (sz : Nat) (rows : List (List C)) (k : IntKind) (n : Int) : vIaddr o sz (.k (.c (lstC sz rows))) (.k (.c (.int k n))) = some (0 ≤ n ∧ n < rows.length, .k (.pel sz rows n.toNat 0)) := by
  simp only [lstC, vIaddr, Option.some.injEq, Prod.mk.injEq]
  cases rows with
  | nil => simp; omega
  | cons a l =>
    refine ⟨?_, ?_⟩
    · simp
    · simp
def cutS2 (sz : Nat) (rows : List (List C)) : Option Int → Option Int → Option (Prop × V)
  | some l, some h => some (0 ≤ l ∧ l ≤ h ∧ h ≤ rows.length, .list sz none ((rows.take h.toNat).drop l.toNat))
  | _, _ => none
theorem r_vSlice_lst (sz : Nat) (lo hi : Option V) (rows : List (List C)) : vSlice sz lo hi (.k (.c (lstC sz rows))) = cutS2 sz rows (vBound 0 lo) (vBound rows.length hi) := by
  simp only [lstC, vSlice]
  generalize vBound 0 lo = a
  generalize vBound (↑rows.length) hi = b
  cases a <;> cases b <;> simp only [cutL, cutS2]
  simp only [Option.some.injEq, Prod.mk.injEq, and_true]
  cases rows <;> simp
theorem r_cutS2 (sz : Nat) (rows : List (List C)) (l h : Int) : cutS2 sz rows (some l) (some h) = some (0 ≤ l ∧ l ≤ h ∧ h ≤ rows.length, .list sz none ((rows.take h.toNat).drop l.toNat)) := id rfl
theorem r_srcV_lst (os : OS) (sz : Nat) (rows : List (List C)) : srcV os sz (.k (.c (lstC sz rows))) = some (True, rows) := by
  simp only [lstC, srcV]
  cases rows <;> simp
@[simp] theorem norm_lst (sz : Nat) (rows : List (List C)) : (lstC sz rows).norm = lstC sz (C.normRows rows) := by
  unfold lstC
  simp only [C.norm]
  cases rows <;> simp [C.normRows]
@[simp] theorem norm_list (sz : Nat) (nl : Option Bool) (rows : List (List C)) : (C.list sz nl rows).norm = lstC sz (C.normRows rows) := by
  unfold lstC
  simp only [C.norm]
  cases rows <;> simp [C.normRows]
theorem r_ofRow_map (r : List C) : ofRow true (r.map Abs.K.c) = .agg r := by
  simp only [ofRow, pureRow_map, if_true]
theorem r_ofRow_take {r : List C} {n : Nat} (h : r.length = n) : ofRow true (List.take n (r.map Abs.K.c)) = .agg r := by
  rw [List.take_of_length_le (by simp; omega)]; exact r_ofRow_map r
theorem r_all_noRef (d : Nat) (r : List C) : (r.map Abs.K.c).all (Abs.K.noRef d) = true := by induction r <;> simp_all [Abs.K.noRef]
theorem r_map_scrub (τ : Nat) (r : List C) : (r.map Abs.K.c).map (Abs.K.scrub τ) = r.map Abs.K.c := by simp [Abs.K.scrub]
theorem r_map_nrm (r : List C) : (r.map Abs.K.c).map Abs.K.nrm = (C.normRow r).map Abs.K.c := by
  induction r with
  | nil => rfl
  | cons a r ih => simp only [List.map_cons, ih]; rfl
theorem r_map_frz (τ : Nat) (ob : O) (r : List C) : (r.map Abs.K.c).map (Abs.K.frz τ ob) = r.map Abs.K.c := by simp [Abs.K.frz]
theorem encRule_len (r : Rule) : (encRule r).length = 4 := by simp [encRule, encT_len]
theorem encOrder_len (r : Order) : (encOrder r).length = 4 := by simp [encOrder]
theorem encChoice_len (r : Choice) : (encChoice r).length = 3 := by simp [encChoice]
theorem f_rule0 (r : Rule) : ofRow false (List.take 1 (List.map Abs.K.c (encRule r))) = .k (.c (.int .i64 r.ask)) := rfl
theorem f_rule1 (r : Rule) : ofRow true (List.take 3 (List.drop 1 (List.map Abs.K.c (encRule r)))) = .agg (encT r.term) := by
  have : List.drop 1 (List.map Abs.K.c (encRule r)) = List.map Abs.K.c (encT r.term) := rfl
  rw [this]; exact r_ofRow_take (encT_len _)
theorem g_rule0 (r : Rule) : (encRule r).getD 0 default = .int .i64 r.ask := rfl
theorem g_rule1 (r : Rule) : List.take 3 (List.drop 1 (encRule r)) = encT r.term := by
  have : List.drop 1 (encRule r) = encT r.term := rfl
  rw [this, List.take_of_length_le (by rw [encT_len]; omega)]
theorem f_ch0 (c : Choice) : ofRow false (List.take 1 (List.map Abs.K.c (encChoice c))) = .k (.c (.int .i64 c.ask)) := rfl
theorem f_ch1 (c : Choice) : ofRow false (List.take 1 (List.drop 1 (List.map Abs.K.c (encChoice c)))) = .k (.c (.int .i64 c.by_)) := rfl
theorem f_or2 (o : Order) : ofRow false (List.take 1 (List.drop 2 (List.map Abs.K.c (encOrder o)))) = .k (.c (lstC 3 (o.choices.map encChoice))) := rfl
theorem f_or3 (o : Order) : ofRow false (List.take 1 (List.drop 3 (List.map Abs.K.c (encOrder o)))) = .k (.c (lstC 4 (o.rules.map encRule))) := rfl
theorem len_rules {o : Order} {l : List V} (hm : V.agg (encOrder o) ∈ l) (h : ∀ v, v ∈ l → ∀ c, c ∈ v.topC → ∀ sz nl rows, c = .list sz nl rows → rows.length ≤ 9223372036854775807) :
    o.choices.length ≤ 9223372036854775807 ∧ o.rules.length ≤ 9223372036854775807 := by
  refine ⟨?_, ?_⟩
  · have := h _ hm (lstC 3 (o.choices.map encChoice)) (by simp [V.topC, encOrder]) _ _ _ rfl
    simpa using this
  · have := h _ hm (lstC 4 (o.rules.map encRule)) (by simp [V.topC, encOrder]) _ _ _ rfl
    simpa using this
theorem len_lst {sz : Nat} {rows : List (List C)} {l : List V} (hm : lst sz rows ∈ l) (h : ∀ v, v ∈ l → ∀ c, c ∈ v.topC → ∀ sz nl rows, c = .list sz nl rows → rows.length ≤ 9223372036854775807) : rows.length ≤ 9223372036854775807 :=
  h _ hm (lstC sz rows) (by simp [V.topC]) _ _ _ rfl
section
variable {P : Program} {f : FuncId} {vs : List V} {K : KK} {d : Nat} {ts : TS} {os : OS}
theorem call_s {args : List V} {r : V} {X : Prop} (hs : Spec P f args (fun r' => r' = r)) (hk : K (insT d r ts) os)
    (hp : vs.all (fun v => (lendL os v).isPure) = true := by simp [lendL, lendO, lookO, V.isPure])
    (ha : vs.map (fun v => (lendL os v).norm) = args := by simp [lendL, lendO, lookO, V.norm, encT_eq, encRule, encOrder, encChoice, encCell, norm_list, lst]) (hr : r.scalar = true := by rfl) : callK P f vs [] K (some d) ts os ∨ X := by
  refine .inl ⟨hp, r, .inl ?_, ?_⟩
  · simpa [ha] using hs
  · rw [if_pos hr]; exact hk
theorem call_c {cs : List C} {args : List V} {r : V} {X : Prop} (hs : Spec P f args (fun r' => r' = r)) (hk : K (insT d r ts) os)
    (hp : vs.all (fun v => (lendL os v).isPure) = true := by simp [lendL, lendO, lookO, V.isPure])
    (ha : (vs.map (fun v => (lendL os v).norm) ++ cs.map fun c => .k (.c c.norm)) = args := by simp [lendL, lendO, lookO, V.norm, encT_eq, encRule, encOrder, encChoice, encCell, norm_list, lst]) (hr : r.scalar = true := by rfl) : callK P f vs cs K (some d) ts os ∨ X := by
  refine .inl ⟨hp, r, .inl (by rw [ha]; exact hs), ?_⟩
  rw [if_pos hr]; exact hk
theorem call_r {args : List V} {r : V} {X : Prop} (hs : Spec P f args (fun r' => r' = r)) (hk : retK r K ts os (some d))
    (hp : vs.all (fun v => (lendL os v).isPure) = true := by simp [lendL, lendO, lookO, V.isPure])
    (ha : vs.map (fun v => (lendL os v).norm) = args := by simp [lendL, lendO, lookO, V.norm, encT_eq, encRule, encOrder, encChoice, encCell, norm_list, lst])
    (ht : vs.all (fun v => v.toks.isEmpty) = true := by simp [V.toks, K.toks]) (hr : r.scalar = false := by rfl) : callK P f vs [] K (some d) ts os ∨ X := by
  refine .inl ⟨hp, r, .inl (by simpa [ha] using hs), ?_⟩
  rw [if_neg (by simp [hr])]
  exact ⟨ht, hk⟩
theorem call_l {args : List V} {e sz : Nat} {nl : Option Bool} {rows : List (List C)} {X : Prop} (hs : Spec P f args (fun r' => r' = .k (.newl e sz nl rows))) (hk : K (insT d (.k (.own d)) ts) (insO d (.arr e sz nl rows) os))
    (hp : vs.all (fun v => (lendL os v).isPure) = true := by simp [lendL, lendO, lookO, V.isPure])
    (ha : vs.map (fun v => (lendL os v).norm) = args := by simp [lendL, lendO, lookO, V.norm, encT_eq, encRule, encOrder, encChoice, encCell, norm_list, lst])
    (ht : vs.all (fun v => v.toks.isEmpty) = true := by simp [V.toks, K.toks]) (hf : freeB d ts os := by first | rfl | simp [freeB, freeT, freeO, V.noRef, V.noRefL, O.noRef, Abs.K.noRef, r_all_noRef]) : callK P f vs [] K (some d) ts os ∨ X := by
  refine .inl ⟨hp, _, .inl (by simpa [ha] using hs), ?_⟩
  rw [if_neg (by simp [V.scalar])]
  refine ⟨ht, ?_⟩
  show regK _ _ _ _ _ _
  refine ⟨⟨⟨hf, .inl rfl⟩, trivial⟩, hk⟩
theorem call_scalar {args : List V} {r : V} {X : Prop} (hs : Spec P f args (fun r' => r' = r)) (hp : vs.all (fun v => (lendL os v).isPure) = true) (ha : vs.map (fun v => (lendL os v).norm) = args) (hr : r.scalar = true)
    (hk : K (insT d r ts) os) : callK P f vs [] K (some d) ts os ∨ X := by
  refine .inl ⟨hp, r, .inl ?_, ?_⟩
  · simpa [ha] using hs
  · rw [if_pos hr]; exact hk
theorem callQ_scalar {args : List V} {r : V} (hs : Spec P f args (fun r' => r' = r)) (hp : vs.all (fun v => (lendL os v).isPure) = true) (ha : vs.map (fun v => (lendL os v).norm) = args) (hr : r.scalar = true)
    (hk : K (insT d r.fz ts) os) : callQK P f vs [] K d ts os :=
  ⟨hp, r, by simpa [ha] using hs, .inl hr, hk⟩
end
end Go.Abs


namespace Go.Abs
section
variable {P : Program}
theorem shape_int {n : Nat} {t : TypeId} {r : List C} {k : IntKind} (hu : P.underlying t = some (.int k)) (h : Shape P n t r) : ∃ m : Int, r = [.int k m] ∧ (Lit.int k m).wf = true := by
  cases n with
  | zero => exact h.elim
  | succ n => simp only [Shape, hu] at h; exact h
theorem shape_bool {n : Nat} {t : TypeId} {r : List C} (hu : P.underlying t = some .bool) (h : Shape P n t r) : ∃ b : Bool, r = [.bool b] := by
  cases n with
  | zero => exact h.elim
  | succ n => simp only [Shape, hu] at h; exact h
theorem shape_str {n : Nat} {t : TypeId} {r : List C} (hu : P.underlying t = some .string) (h : Shape P n t r) : ∃ s : List UInt8, r = [.str s] ∧ s.length ≤ 9223372036854775807 := by
  cases n with
  | zero => exact h.elim
  | succ n => simp only [Shape, hu] at h; exact h
theorem shape_slice {n : Nat} {t e : TypeId} {r : List C} (hu : P.underlying t = some (.slice e)) (h : Shape P n t r) : ∃ m rows, n = m + 1 ∧ r = [lstC (P.cellsOf e) rows] ∧ rows.length ≤ 9223372036854775807 ∧ ∀ x ∈ rows, Shape P m e x := by
  cases n with
  | zero => exact h.elim
  | succ n => simp only [Shape, hu] at h; obtain ⟨rows, h1, h2, h3⟩ := h; exact ⟨n, rows, rfl, h1, h2, h3⟩
theorem shape_struct {n : Nat} {t : TypeId} {fs : Array Field} {r : List C} (hu : P.underlying t = some (.struct fs)) (h : Shape P n t r) : ∃ m rs, n = m + 1 ∧ r = rs.flatten ∧ ShapeL (Shape P m) (fs.toList.map (·.type)) rs := by
  cases n with
  | zero => exact h.elim
  | succ n => simp only [Shape, hu] at h; obtain ⟨rs, h1, h2⟩ := h; exact ⟨n, rs, rfl, h1, h2⟩
theorem shapeL2 {S : TypeId → List C → Prop} {a b : TypeId} {rs : List (List C)} (h : ShapeL S [a, b] rs) : ∃ x y, rs = [x, y] ∧ S a x ∧ S b y := by
  match rs, h with
  | [x, y], h => exact ⟨x, y, rfl, h.1, h.2.1⟩
theorem shapeL3 {S : TypeId → List C → Prop} {a b c : TypeId} {rs : List (List C)} (h : ShapeL S [a, b, c] rs) : ∃ x y z, rs = [x, y, z] ∧ S a x ∧ S b y ∧ S c z := by
  match rs, h with
  | [x, y, z], h => exact ⟨x, y, z, rfl, h.1, h.2.1, h.2.2.1⟩
theorem shapeL4 {S : TypeId → List C → Prop} {a b c d : TypeId} {rs : List (List C)} (h : ShapeL S [a, b, c, d] rs) : ∃ x y z u, rs = [x, y, z, u] ∧ S a x ∧ S b y ∧ S c z ∧ S d u := by
  match rs, h with
  | [x, y, z, u], h => exact ⟨x, y, z, u, rfl, h.1, h.2.1, h.2.2.1, h.2.2.2.1⟩
theorem rows_of {α : Type} {S : List C → Prop} (enc : α → List C) (hS : ∀ r, S r → ∃ a, r = enc a) : ∀ (rows : List (List C)), (∀ r ∈ rows, S r) → ∃ l : List α, rows = l.map enc
  | [], _ => ⟨[], rfl⟩
  | r :: rows, h => by
    obtain ⟨a, ha⟩ := hS r (h r (by simp))
    obtain ⟨l, hl⟩ := rows_of enc hS rows (fun x hx => h x (by simp [hx]))
    exact ⟨a :: l, by rw [ha, hl]; rfl⟩
structure TermTypes (P : Program) (tI tB tS tT tLT tR tLR tC tLC tO : TypeId) : Prop where
  i : P.underlying tI = some (.int .i64)
  b : P.underlying tB = some .bool
  s : P.underlying tS = some .string
  t : ∃ fs, P.underlying tT = some (.struct fs) ∧ fs.toList.map (·.type) = [tI, tI, tLT]
  lt : P.underlying tLT = some (.slice tT) ∧ P.cellsOf tT = 3
  r : ∃ fs, P.underlying tR = some (.struct fs) ∧ fs.toList.map (·.type) = [tI, tT]
  lr : P.underlying tLR = some (.slice tR) ∧ P.cellsOf tR = 4
  c : ∃ fs, P.underlying tC = some (.struct fs) ∧ fs.toList.map (·.type) = [tI, tI, tB]
  lc : P.underlying tLC = some (.slice tC) ∧ P.cellsOf tC = 3
  o : ∃ fs, P.underlying tO = some (.struct fs) ∧ fs.toList.map (·.type) = [tS, tB, tLC, tLR]
variable {tI tB tS tT tLT tR tLR tC tLC tO : TypeId}
theorem shape_term (h : TermTypes P tI tB tS tT tLT tR tLR tC tLC tO) : ∀ (n : Nat) (r : List C), Shape P n tT r → ∃ t : Term, r = encT t := by
  intro n
  induction n using Nat.strongRecOn with
  | ind n ih =>
    intro r hr
    obtain ⟨fs, hf, hl⟩ := h.t
    obtain ⟨m, rs, rfl, rfl, hs⟩ := shape_struct hf hr
    rw [hl] at hs
    obtain ⟨x, y, z, rfl, h1, h2, h3⟩ := shapeL3 hs
    obtain ⟨op, rfl, _⟩ := shape_int h.i h1
    obtain ⟨k, rfl, _⟩ := shape_int h.i h2
    obtain ⟨m', rows, rfl, rfl, _, h4⟩ := shape_slice h.lt.1 h3
    obtain ⟨l, rfl⟩ := rows_of encT (fun r hr => ih m' (by omega) r hr) rows h4
    exact ⟨.mk op k l, by rw [encT_eq, h.lt.2]; rfl⟩
theorem shape_rule (h : TermTypes P tI tB tS tT tLT tR tLR tC tLC tO) {n : Nat} {r : List C} (hr : Shape P n tR r) : ∃ x : Rule, r = encRule x := by
  obtain ⟨fs, hf, hl⟩ := h.r
  obtain ⟨m, rs, rfl, rfl, hs⟩ := shape_struct hf hr
  rw [hl] at hs
  obtain ⟨x, y, rfl, h1, h2⟩ := shapeL2 hs
  obtain ⟨a, rfl, _⟩ := shape_int h.i h1
  obtain ⟨t, rfl⟩ := shape_term h m y h2
  exact ⟨⟨a, t⟩, by simp [encRule]⟩
theorem shape_choice (h : TermTypes P tI tB tS tT tLT tR tLR tC tLC tO) {n : Nat} {r : List C} (hr : Shape P n tC r) : ∃ x : Choice, r = encChoice x := by
  obtain ⟨fs, hf, hl⟩ := h.c
  obtain ⟨m, rs, rfl, rfl, hs⟩ := shape_struct hf hr
  rw [hl] at hs
  obtain ⟨x, y, z, rfl, h1, h2, h3⟩ := shapeL3 hs
  obtain ⟨a, rfl, _⟩ := shape_int h.i h1
  obtain ⟨b, rfl, _⟩ := shape_int h.i h2
  obtain ⟨c, rfl⟩ := shape_bool h.b h3
  exact ⟨⟨a, b, c⟩, rfl⟩
theorem shape_order (h : TermTypes P tI tB tS tT tLT tR tLR tC tLC tO) {n : Nat} {r : List C} (hr : Shape P n tO r) : ∃ x : Order, r = encOrder x := by
  obtain ⟨fs, hf, hl⟩ := h.o
  obtain ⟨m, rs, rfl, rfl, hs⟩ := shape_struct hf hr
  rw [hl] at hs
  obtain ⟨x, y, z, u, rfl, h1, h2, h3, h4⟩ := shapeL4 hs
  obtain ⟨a, rfl, _⟩ := shape_str h.s h1
  obtain ⟨b, rfl⟩ := shape_bool h.b h2
  obtain ⟨_, rows, _, rfl, _, h5⟩ := shape_slice h.lc.1 h3
  obtain ⟨_, rows', _, rfl, _, h6⟩ := shape_slice h.lr.1 h4
  obtain ⟨l, rfl⟩ := rows_of encChoice (fun r hr => shape_choice h hr) rows h5
  obtain ⟨l', rfl⟩ := rows_of encRule (fun r hr => shape_rule h hr) rows' h6
  exact ⟨⟨a, b, l, l'⟩, by rw [h.lc.2, h.lr.2]; rfl⟩
theorem arg_order (h : TermTypes P tI tB tS tT tLT tR tLR tC tLC tO) {n : Nat} {r : List C} (hr : Shape P n tO r) : ∃ x : Order, argV P tO r = .agg (encOrder x) := by
  obtain ⟨x, rfl⟩ := shape_order h hr
  obtain ⟨fs, hf, _⟩ := h.o
  exact ⟨x, by simp only [argV, hf]⟩
theorem arg_int {n : Nat} {t : TypeId} {r : List C} {k : IntKind} (hu : P.underlying t = some (.int k)) (hr : Shape P n t r) : ∃ m : Int, argV P t r = .int k m ∧ (Lit.int k m).wf = true := by
  obtain ⟨m, rfl, h⟩ := shape_int hu hr
  exact ⟨m, by simp only [argV, hu], h⟩
end
end Go.Abs


namespace Go.Abs
section
variable {P : Program}
end
end Go.Abs


namespace Go.Abs
def cut (n : Int) : Int := min (max n (-1099511627776)) 1099511627776
def varType (v : Int) : Option Int := if v < 0 ∨ v > 19 then none else if v < 7 then some 0 else some 1
def varTypeV (v : Int) : V := .tup [.int .i64 ((varType v).getD 0), .bool (varType v).isSome]
def leaf (t : Term) : Int × Int :=
  if t.args.length > 0 then (0, 2) else if t.op = 0 then (if cut t.n ≠ t.n then (0, 3) else (0, 0)) else if t.op = 1 then (if t.n < 0 ∨ t.n > 1 then (0, 3) else (1, 0))
  else match varType t.n with | none => (0, 10) | some k => (k, 0)
def pairV (p : Int × Int) : V := .tup [.int .i64 p.1, .int .i64 p.2]
mutual
def nodes : Term → Int → Int → Int
  | .mk _ _ a, k, lv => if lv < 1 then -1 else nodesL a (k - 1) (lv - 1)
def nodesL : List Term → Int → Int → Int
  | [], k, _ => k
  | t :: l, k, lv => if k < 0 then k else nodesL l (nodes t k lv) lv
end
theorem nodes_eq (t : Term) (k lv : Int) : nodes t k lv = if lv < 1 then -1 else nodesL t.args (k - 1) (lv - 1) := by cases t; simp [nodes, Term.args]
mutual
theorem nodes_bd : ∀ (t : Term) (k lv : Int), 0 ≤ k → -1 ≤ nodes t k lv ∧ nodes t k lv ≤ k
  | .mk _ _ a, k, lv, h => by
    simp only [nodes]
    split
    · omega
    · have := nodesL_bd a (k - 1) (lv - 1) (by omega); omega
theorem nodesL_bd : ∀ (l : List Term) (k lv : Int), -1 ≤ k → -1 ≤ nodesL l k lv ∧ nodesL l k lv ≤ k
  | [], k, lv, h => by simp [nodesL, h]
  | t :: l, k, lv, h => by
    simp only [nodesL]
    split
    · omega
    · have h1 := nodes_bd t k lv (by omega)
      have := nodesL_bd l (nodes t k lv) lv h1.1
      omega
end
theorem nodesL_drop {l : List Term} {i : Nat} (h : i < l.length) (k lv : Int) : nodesL (l.drop i) k lv = if k < 0 then k else nodesL (l.drop (i + 1)) (nodes l[i] k lv) lv := by
  rw [List.drop_eq_getElem_cons h, nodesL]
theorem nodesL_neg (l : List Term) (k lv : Int) (h : k < 0) : nodesL l k lv = k := by
  cases l <;> simp [nodesL, h]
theorem norm_T (t : Term) : C.normRow [C.int .i64 t.op, C.int .i64 t.n, C.list (if (List.map encT t.args).isEmpty = true then 0 else 3) none (List.map encT t.args)] = encT t := by
  have h := encT_norm t
  rw [encT_eq] at h
  exact h.trans (encT_eq t).symm
def measL (m : Term → Int) : List Term → Int → Int
  | [], n => n
  | a :: l, n => if n + m a > 60 then n + m a else measL m l (n + m a)
def meas : Nat → Term → Int
  | 0, _ => 61
  | f + 1, t => measL (meas f) t.args 1
theorem measL_bd {m : Term → Int} {M : Int} (hm : ∀ a, 1 ≤ m a ∧ m a ≤ M) (hM : 1 ≤ M) : ∀ (l : List Term) (n : Int), 1 ≤ n → n ≤ 60 → 1 ≤ measL m l n ∧ measL m l n ≤ 60 + M
  | [], n, h1, h2 => by simp only [measL]; omega
  | a :: l, n, h1, h2 => by
    simp only [measL]
    have := hm a
    split
    · omega
    · exact measL_bd hm hM l _ (by omega) (by omega)
theorem meas_bd : ∀ (f : Nat) (t : Term), 1 ≤ meas f t ∧ meas f t ≤ 61 + 60 * f
  | 0, t => by simp [meas]
  | f + 1, t => by
    have := measL_bd (m := meas f) (M := 61 + 60 * f) (meas_bd f) (by omega) t.args 1 (by omega) (by omega)
    simp only [meas]
    omega
theorem measL_drop {m : Term → Int} {l : List Term} {i : Nat} (h : i < l.length) (n : Int) : measL m (l.drop i) n = if n + m l[i] > 60 then n + m l[i] else measL m (l.drop (i + 1)) (n + m l[i]) := by
  rw [List.drop_eq_getElem_cons h, measL]
def shapeArgs (op : Int) : List Int := if op = 3 then [1] else if op = 4 ∨ op = 5 then [1, 1] else if op = 6 then [1, -1, -1] else if op = 7 then [0, 0] else if op = 8 then [-1, -1] else [0, 0]
def shapeRes (op : Int) : Int := if op = 3 then 1 else if op = 4 ∨ op = 5 then 1 else if op = 6 then -1 else if op = 7 then 1 else if op = 8 then 1 else 0
def shapeV (op : Int) : V := .agk [.newl 3 1 none (ints (shapeArgs op)), .c (.int .i64 (shapeRes op))]
def fit : List Int → List Int → Int → Option Int
  | [], _, c => some c
  | _, [], c => some c
  | w :: ws, ty :: tys, c =>
    let c' := if w = -1 ∧ c = -1 then ty else c
    if ty ≠ (if w = -1 then c' else w) then none else fit ws tys c'
def node (t : Term) (tys : List Int) : Int × Int :=
  if t.op < 0 ∨ t.op > 13 then (0, 1) else if t.op = 0 ∨ t.op = 1 ∨ t.op = 2 then leaf t
  else if tys.length ≠ (shapeArgs t.op).length ∨ t.n ≠ 0 then (0, 2)
  else match fit (shapeArgs t.op) tys (-1) with
    | none => (0, 11)
    | some c => if shapeRes t.op = -1 then (c, 0) else (shapeRes t.op, 0)
mutual
def chk : Term → Int × Int
  | .mk o n a => if (chkA a []).1 ≠ 0 then (0, (chkA a []).1) else node (.mk o n a) (chkA a []).2
def chkA : List Term → List Int → Int × List Int
  | [], ty => (0, ty)
  | t :: l, ty => if (chk t).2 ≠ 0 then ((chk t).2, []) else chkA l (ty ++ [(chk t).1])
end
theorem chk_eq (t : Term) : chk t = if (chkA t.args []).1 ≠ 0 then (0, (chkA t.args []).1) else node t (chkA t.args []).2 := by cases t; simp only [chk, Term.args]; rfl
theorem chkA_drop {l : List Term} {i : Nat} (h : i < l.length) (ty : List Int) : chkA (l.drop i) ty = if (chk l[i]).2 ≠ 0 then ((chk l[i]).2, []) else chkA (l.drop (i + 1)) (ty ++ [(chk l[i]).1]) := by
  rw [List.drop_eq_getElem_cons h, chkA]
def Narrow : Nat → Term → Prop
  | 0, _ => False
  | f + 1, t => t.args.length ≤ 1000 ∧ ∀ a ∈ t.args, Narrow f a
theorem set_at {l : List Int} {n : Nat} {x : Int} {i : Nat} (hl : l.length = i) (h : i < n) :
    (ints l ++ List.replicate (n - i) [C.int .i64 0]).set i [C.int .i64 x] = ints (l ++ [x]) ++ List.replicate (n - (i + 1)) [C.int .i64 0] := by
  obtain ⟨m, hm⟩ : ∃ m, n - i = m + 1 := ⟨n - i - 1, by omega⟩
  have hm2 : n - (i + 1) = m := by omega
  rw [hm, hm2, List.replicate_succ, List.set_append_right _ _ (by simp [ints, hl])]
  simp [ints, hl]
theorem fit_drop {ws tys : List Int} {j : Nat} (h1 : j < ws.length) (h2 : j < tys.length) (c : Int) : fit (ws.drop j) (tys.drop j) c =
    if tys[j] ≠ (if ws[j] = -1 then (if ws[j] = -1 ∧ c = -1 then tys[j] else c) else ws[j]) then none else fit (ws.drop (j + 1)) (tys.drop (j + 1)) (if ws[j] = -1 ∧ c = -1 then tys[j] else c) := by
  rw [List.drop_eq_getElem_cons h1, List.drop_eq_getElem_cons h2, fit]
theorem fit_end (ws tys : List Int) (c : Int) (h : ws = []) : fit ws tys c = some c := by subst h; cases tys <;> rfl
theorem shape_small (op : Int) : (shapeArgs op).length ≤ 3 := by unfold shapeArgs; (repeat' split) <;> simp
end Go.Abs


namespace Go.Abs
theorem Term.ind {P : Term → Prop} (h : ∀ o n a, (∀ x ∈ a, P x) → P (.mk o n a)) : ∀ t, P t := by
  have key : ∀ k, ∀ t : Term, SizeOf.sizeOf t < k → P t := by
    intro k
    induction k with
    | zero => intro t ht; omega
    | succ k ih =>
      rintro ⟨o, n, a⟩ ht
      refine h o n a fun x hx => ih x ?_
      have := List.sizeOf_lt_of_mem hx
      simp at ht
      omega
  exact fun t => key _ t (Nat.lt_succ_self _)
def checkT (t : Term) : Int × Int := if nodes t 60 8 < 0 then (0, 6) else chk t
def few (t : Term) : Bool := decide (nodes t 100 20 ≥ 0)
theorem measL_ge {m : Term → Int} (hm : ∀ a, 1 ≤ m a) : ∀ (l : List Term) (n : Int), n ≤ measL m l n
  | [], n => by simp [measL]
  | b :: l, n => by
    have := hm b
    have := measL_ge hm l (n + m b)
    simp only [measL]; split <;> omega
theorem meas_nodes : ∀ (f : Nat),
    (∀ (t : Term) (c : Int), 0 ≤ c → c < 60 → (nodes t (60 - c) f < 0 ↔ c + meas f t > 60) ∧ (0 ≤ nodes t (60 - c) f → nodes t (60 - c) f = 60 - c - meas f t)) ∧
    (∀ (l : List Term) (c n : Int), 0 ≤ c → 1 ≤ n → c + n ≤ 60 → (nodesL l (60 - c - n) f < 0 ↔ c + measL (meas f) l n > 60) ∧ (0 ≤ nodesL l (60 - c - n) f → nodesL l (60 - c - n) f = 60 - c - measL (meas f) l n)) := by
  intro f
  induction f with
  | zero =>
    have h1 : ∀ (t : Term) (c : Int), 0 ≤ c → c < 60 → (nodes t (60 - c) ((0 : Nat) : Int) < 0 ↔ c + meas 0 t > 60) ∧ (0 ≤ nodes t (60 - c) ((0 : Nat) : Int) → nodes t (60 - c) ((0 : Nat) : Int) = 60 - c - meas 0 t) := by
      intro t c hc h60
      rw [nodes_eq, if_pos (by omega)]
      simp only [meas]
      omega
    refine ⟨h1, fun l => ?_⟩
    cases l with
    | nil =>
      intro c n hc hn h
      show (60 - c - n < 0 ↔ c + n > 60) ∧ (0 ≤ 60 - c - n → 60 - c - n = 60 - c - n)
      exact ⟨by omega, fun _ => rfl⟩
    | cons a l =>
      intro c n hc hn h
      have e1 : nodes a (60 - c - n) ((0 : Nat) : Int) = -1 := by rw [nodes_eq, if_pos (by omega)]
      have h0 : ¬ (60 - c - n < 0) := by omega
      have h6 : n + 61 > 60 := by omega
      simp only [nodesL, measL, meas, e1, if_neg h0, if_pos h6]
      rw [nodesL_neg _ _ _ (by omega)]
      omega
  | succ f ih =>
    have h1 : ∀ (t : Term) (c : Int), 0 ≤ c → c < 60 → (nodes t (60 - c) ((f + 1 : Nat) : Int) < 0 ↔ c + meas (f + 1) t > 60) ∧ (0 ≤ nodes t (60 - c) ((f + 1 : Nat) : Int) → nodes t (60 - c) ((f + 1 : Nat) : Int) = 60 - c - meas (f + 1) t) := by
      intro t c hc h60
      rw [nodes_eq, if_neg (by omega)]
      have := ih.2 t.args c 1 hc (by omega) (by omega)
      have e : ((f + 1 : Nat) : Int) - 1 = (f : Nat) := by omega
      rw [e]
      simp only [meas]
      exact this
    refine ⟨h1, fun l => ?_⟩
    induction l with
    | nil =>
      intro c n hc hn h
      show (60 - c - n < 0 ↔ c + n > 60) ∧ (0 ≤ 60 - c - n → 60 - c - n = 60 - c - n)
      exact ⟨by omega, fun _ => rfl⟩
    | cons a l ihl =>
      intro c n hc hn h
      simp only [nodesL, measL]
      rw [if_neg (by omega)]
      have hm := (meas_bd (f + 1) a).1
      by_cases hb : c + n = 60
      · have e0 : 60 - c - n = 0 := by omega
        have hn : nodes a (60 - c - n) ((f + 1 : Nat) : Int) < 0 := by
          have := (nodes_bd a (60 - c - n) ((f + 1 : Nat) : Int) (by omega))
          rw [nodes_eq, if_neg (by omega), nodesL_neg _ _ _ (by omega)]; omega
        rw [nodesL_neg _ _ _ hn]
        split
        · have := (nodes_bd a (60 - c - n) ((f + 1 : Nat) : Int) (by omega)).1; omega
        · have := measL_ge (m := meas (f + 1)) (fun a => (meas_bd (f + 1) a).1) l (n + meas (f + 1) a)
          have := (nodes_bd a (60 - c - n) ((f + 1 : Nat) : Int) (by omega)).1
          omega
      · obtain ⟨g1, g2⟩ := h1 a (c + n) (by omega) (by omega)
        have e1 : 60 - (c + n) = 60 - c - n := by omega
        rw [e1] at g1 g2
        by_cases hneg : nodes a (60 - c - n) ((f + 1 : Nat) : Int) < 0
        · rw [nodesL_neg _ _ _ hneg]
          have := g1.1 hneg
          split
          · omega
          · have := measL_ge (m := meas (f + 1)) (fun a => (meas_bd (f + 1) a).1) l (n + meas (f + 1) a)
            omega
        · have e2 := g2 (by omega)
          rw [e2]
          have hnb : ¬ (c + n + meas (f + 1) a > 60) := fun h => hneg (g1.2 h)
          rw [if_neg (by omega)]
          have := ihl c (n + meas (f + 1) a) hc (by omega) (by omega)
          have e3 : 60 - c - (n + meas (f + 1) a) = 60 - (c + n) - meas (f + 1) a := by omega
          rw [e3] at this
          have e4 : 60 - c - n - meas (f + 1) a = 60 - (c + n) - meas (f + 1) a := by omega
          rw [e4]; exact this
theorem meas_check (t : Term) : meas 8 t > 60 ↔ nodes t 60 8 < 0 := by
  have := ((meas_nodes 8).1 t 0 (by omega) (by omega)).1
  simp only [Int.sub_zero, Int.zero_add] at this
  exact this.symm
theorem nodesL_len : ∀ (l : List Term) (k lv : Int), 0 ≤ nodesL l k lv → (l.length : Int) ≤ k
  | [], k, lv, h => by simpa [nodesL] using h
  | t :: l, k, lv, h => by
    simp only [nodesL] at h
    split at h
    · omega
    · have h1 := nodesL_len l _ lv h
      have h2 : nodes t k lv ≤ k - 1 := by
        rw [nodes_eq]
        split
        · omega
        · have := (nodesL_bd t.args (k - 1) (lv - 1) (by omega)).2; omega
      simp only [List.length_cons]
      omega
theorem nodesL_mem : ∀ (l : List Term) (k lv : Int), 0 ≤ nodesL l k lv → ∀ a ∈ l, ∃ k', k' ≤ k ∧ 0 ≤ nodes a k' lv
  | [], _, _, _, a, h => by simp at h
  | t :: l, k, lv, h, a, ha => by
    simp only [nodesL] at h
    split at h
    · omega
    · rcases List.mem_cons.1 ha with rfl | ha
      · refine ⟨k, Int.le_refl _, ?_⟩
        by_cases hn : nodes a k lv < 0
        · rw [nodesL_neg _ _ _ hn] at h; omega
        · omega
      · obtain ⟨k', h1, h2⟩ := nodesL_mem l _ lv h a ha
        have := (nodes_bd t k lv (by omega)).2
        exact ⟨k', by omega, h2⟩
theorem narrow_of : ∀ (f : Nat) (t : Term) (k : Int), k ≤ 1000 → 0 ≤ nodes t k f → Narrow f t
  | 0, t, k, _, h => by rw [nodes_eq] at h; simp at h
  | f + 1, t, k, hk, h => by
    rw [nodes_eq, if_neg (by omega)] at h
    have e : ((f + 1 : Nat) : Int) - 1 = (f : Nat) := by omega
    rw [e] at h
    have := nodesL_len _ _ _ h
    refine ⟨by omega, fun a ha => ?_⟩
    obtain ⟨k', h1, h2⟩ := nodesL_mem _ _ _ h a ha
    exact narrow_of f a k' (by omega) h2
mutual
def used : Term → Int → Bool
  | .mk o n a, v => if o = 2 then decide (n = v) else usedL a v
def usedL : List Term → Int → Bool
  | [], _ => false
  | t :: l, v => if used t v = true then true else usedL l v
end
theorem used_eq (t : Term) (v : Int) : used t v = if t.op = 2 then decide (t.n = v) else usedL t.args v := by cases t; simp only [used, Term.op, Term.n, Term.args]; rfl
mutual
def coll : Term → List Int → List Int
  | .mk o n a, acc => collL a (if o = 2 then acc ++ [n] else acc)
def collL : List Term → List Int → List Int
  | [], acc => acc
  | t :: l, acc => collL l (coll t acc)
end
theorem coll_eq (t : Term) (acc : List Int) : coll t acc = collL t.args (if t.op = 2 then acc ++ [t.n] else acc) := by cases t; simp only [coll, Term.op, Term.n, Term.args]; rfl
theorem collL_drop {l : List Term} {i : Nat} (h : i < l.length) (acc : List Int) : collL (l.drop i) acc = collL (l.drop (i + 1)) (coll l[i] acc) := by
  rw [List.drop_eq_getElem_cons h, collL]
def upto (n : Nat) : List Int := (List.range n).map fun (i : Nat) => (i : Int)
def varsT (t : Term) : List Int := if (checkT t).2 ≠ 0 then [] else (upto 20).filter (used t)
def valueC (v : Int) (cells : List Cell) : Cell :=
  if v < 0 ∨ v ≥ cells.length then ⟨false, 0⟩
  else if (cells.getD v.toNat ⟨false, 0⟩).known = false then ⟨false, 0⟩
  else if (varType v).getD 0 = 0 then ⟨true, cut (cells.getD v.toNat ⟨false, 0⟩).n⟩
  else if (cells.getD v.toNat ⟨false, 0⟩).n ≠ 0 then ⟨true, 1⟩ else ⟨true, 0⟩
def yes (b : Bool) : Cell := if b then ⟨true, 1⟩ else ⟨true, 0⟩
def logic (a b : Cell) (alone : Int) : Cell :=
  if a.known = true ∧ a.n = alone ∨ b.known = true ∧ b.n = alone then ⟨true, alone⟩
  else if a.known = true ∧ b.known = true then ⟨true, 1 - alone⟩ else ⟨false, 0⟩
def times (a b : Int) : Int := cut (a * b)
def number (op a b : Int) : Cell :=
  if op = 7 then yes (decide (a < b)) else if op = 8 then yes (decide (a = b)) else if op = 9 then ⟨true, cut (a + b)⟩ else if op = 10 then ⟨true, cut (a - b)⟩
  else if op = 11 then ⟨true, times a b⟩ else if op = 12 then ⟨true, min a b⟩ else ⟨true, max a b⟩
def evalN (op : Int) (l : List Cell) : Cell :=
  if op = 3 then (if (l.getD 0 ⟨false, 0⟩).known = false then ⟨false, 0⟩ else ⟨true, 1 - (l.getD 0 ⟨false, 0⟩).n⟩)
  else if op = 4 then logic (l.getD 0 ⟨false, 0⟩) (l.getD 1 ⟨false, 0⟩) 0
  else if op = 5 then logic (l.getD 0 ⟨false, 0⟩) (l.getD 1 ⟨false, 0⟩) 1
  else if op = 6 then
    (if (l.getD 0 ⟨false, 0⟩).known = true then l.getD (2 - (l.getD 0 ⟨false, 0⟩).n).toNat ⟨false, 0⟩
     else if (l.getD 1 ⟨false, 0⟩).known = true ∧ (l.getD 2 ⟨false, 0⟩).known = true ∧ (l.getD 1 ⟨false, 0⟩).n = (l.getD 2 ⟨false, 0⟩).n then l.getD 1 ⟨false, 0⟩ else ⟨false, 0⟩)
  else if (l.getD 0 ⟨false, 0⟩).known = false ∨ (l.getD 1 ⟨false, 0⟩).known = false then ⟨false, 0⟩
  else number op (l.getD 0 ⟨false, 0⟩).n (l.getD 1 ⟨false, 0⟩).n
mutual
def eval : Term → List Cell → Cell
  | .mk o n a, cells => if o = 0 ∨ o = 1 then ⟨true, n⟩ else if o = 2 then valueC n cells else evalN o (evalL a cells)
def evalL : List Term → List Cell → List Cell
  | [], _ => []
  | t :: l, cells => eval t cells :: evalL l cells
end
end Go.Abs


namespace Go.Abs
theorem chkA_ok : ∀ (l : List Term) (ty : List Int), (chkA l ty).1 = 0 → (∀ a ∈ l, (chk a).2 = 0) ∧ (chkA l ty).2 = ty ++ l.map fun a => (chk a).1
  | [], ty, _ => by simp [chkA]
  | t :: l, ty, h => by
    simp only [chkA] at h ⊢
    split at h
    · rename_i hne; exact absurd h hne
    · rename_i he
      rw [if_neg he]
      obtain ⟨h1, h2⟩ := chkA_ok l _ h
      refine ⟨?_, by rw [h2]; simp⟩
      intro a ha
      rcases List.mem_cons.1 ha with rfl | ha
      · simpa using he
      · exact h1 a ha
theorem chk_ok {t : Term} (h : (chk t).2 = 0) : (∀ a ∈ t.args, (chk a).2 = 0) ∧ chk t = node t (t.args.map fun a => (chk a).1) := by
  rw [chk_eq] at h
  by_cases h0 : (chkA t.args []).1 = 0
  · obtain ⟨h1, h2⟩ := chkA_ok _ _ h0
    refine ⟨h1, ?_⟩
    rw [chk_eq, if_neg (by simp [h0]), h2]; simp
  · rw [if_pos h0] at h; exact absurd h h0
end Go.Abs


set_option maxRecDepth 100000
namespace Go.Abs
open Go.Proofs
theorem s45 (a b : Int) : Spec Try.prog 45 [.int .i64 a, .int .i64 b] (fun r => r = .bool (decide (a < b ∧ b < 22))) := by
  refine Spec.of_awl hf45 okf45 (by simp) ?_
  simp only [q_wpLs_eq_1, q_wpLs_eq_2, q_wpL_eq_1, q_putDL_eq_1, q_AOp_dst_eq_1, q_AOp_dst_eq_10, q_exL_eq_1, q_exL_eq_3, q_exL_eq_11, q_look_eq_1, q_look_eq_2, q_lookO_eq_1, q_insT_eq_1, q_awl_eq_2, q_awl_eq_5, q_awl_eq_10, q_AE_thenL_eq_1, q_initT_eq_1, q_initT_eq_2, q_putK_eq_1, q_vBin_eq_1, q_resV_eq_1, q_binV_eq_1, q_binInt_eq_3, q_cutInt_eq_8, q_cutInt_eq_10, q_vPick_eq_1, q_vPick_eq_3, q_mapT_eq_1, q_mapT_eq_2, q_mapO_eq_1, q_endK_eq_2, q_endL_eq_1, q_endV_eq_1, q_resL_eq_1, q_resL_eq_2, q_resX_eq_1, q_one_eq_1, q_V_nrm_eq_1, q_V_nrm_eq_5, q_K_nrm_eq_1, q_V_owns_eq_1, q_K_owns_eq_2, q_V_toNew_eq_1, q_K_toNew_eq_1, q_C_norm_eq_4, q_C_norm_eq_5, q_Bool_not_true, true_and, if_true, and_self, List.nodup_nil, Nat.reduceAdd, Nat.reduceBEq, Nat.zero_add, q_guardP_eq_1, q_condB_eq_1, q_condB_eq_2, q_exK_eq_1, condB_decide, lookT_here, lookT_next, uf45, uf45r1, uf45b2, uf45r3, uf45b4]
  refine ⟨fun h => ?_, fun h => ?_⟩
  · have : a < b := h
    simp [this]
  · have : ¬ a < b := h
    simp [this]
theorem s93 (a : Int) : Spec Try.prog 93 [.int .i64 a] (fun r => r = .int .i64 (cut a)) := by
  refine Spec.of_awl hf93 okf93 (by simp) ?_
  simp only [q_wpLs_eq_1, q_wpLs_eq_2, q_wpL_eq_1, q_exL_eq_1, q_exL_eq_34, q_look_eq_1, q_look_eq_2, q_lookO_eq_1, q_insT_eq_1, q_awl_eq_2, q_awl_eq_5, q_awl_eq_10, q_AE_thenL_eq_1, q_initT_eq_1, q_initT_eq_2, q_putK_eq_1, q_vInts_eq_1, q_vInts_eq_2, q_foldV_eq_1, q_vMinmax_eq_1, q_minmaxI_eq_1, q_mapT_eq_1, q_mapT_eq_2, q_mapO_eq_1, q_endK_eq_2, q_endL_eq_1, q_endV_eq_1, q_resL_eq_1, q_resL_eq_2, q_resX_eq_1, q_one_eq_1, q_V_nrm_eq_1, q_K_nrm_eq_1, q_V_owns_eq_1, q_K_owns_eq_2, q_V_toNew_eq_1, q_K_toNew_eq_1, q_C_norm_eq_4, q_Option_map_some, q_List_map_cons, q_List_map_nil, q_List_foldl_cons, q_List_foldl_nil, true_and, if_true, if_false, Bool.false_eq_true, and_self, Int.reduceNeg, List.nodup_nil, Nat.reduceBEq, Nat.zero_add, lookT_here, lookT_next, uf93, uf93r1, uf93b2, uf93r3, uf93b4]
  congr 3
  unfold cut
  split <;> split <;> omega
theorem s33 (a : Int) : Spec Try.prog 33 [.int .i64 a] (fun r => r = varTypeV a) := by
  refine Spec.of_awl hf33 okf33 (by simp) ?_
  simp only [q_wpLs_eq_1, q_wpLs_eq_2, q_wpL_eq_1, q_putDL_eq_1, q_AOp_dst_eq_1, q_AOp_dst_eq_10, q_exL_eq_1, q_exL_eq_3, q_exL_eq_11, q_look_eq_1, q_look_eq_2, q_lookO_eq_1, q_insT_eq_1, q_awl_eq_1, q_awl_eq_2, q_awl_eq_5, q_awl_eq_6, q_awl_eq_7, q_awl_eq_10, q_AE_thenL_eq_1, q_AE_thenL_eq_3, q_AE_inBlockL_eq_1, q_AE_inBlockL_eq_3, q_initT_eq_1, q_initT_eq_2, q_putK_eq_1, q_vBin_eq_1, q_resV_eq_1, q_binV_eq_1, q_binInt_eq_3, q_cutInt_eq_8, q_cutInt_eq_10, q_vPick_eq_1, q_vPick_eq_2, q_mapT_eq_1, q_mapT_eq_2, q_mapO_eq_1, q_endK_eq_2, q_endL_eq_1, q_endV_eq_1, q_resL_eq_1, q_resL_eq_2, q_resX_eq_1, q_one_eq_2, q_V_nrm_eq_1, q_V_nrm_eq_5, q_K_nrm_eq_1, q_V_owns_eq_1, q_V_owns_eq_3, q_K_owns_eq_2, q_V_ownsL_eq_1, q_V_ownsL_eq_2, q_V_toNew_eq_1, q_V_toNew_eq_4, q_K_toNew_eq_1, q_V_toNewL_eq_1, q_V_toNewL_eq_2, q_C_norm_eq_4, q_C_norm_eq_5, q_Bool_not_false, true_and, if_true, if_false, Bool.false_eq_true, and_self, List.append_nil, List.nodup_nil, Nat.reduceBEq, Nat.zero_add, q_learn_eq_1, q_guardP_eq_2, q_condK_eq_1, q_condB_eq_1, q_condB_eq_2, q_exK_eq_1, condB_decide, lookT_here, lookT_next, uf33, uf33r1, uf33b2, uf33r3, uf33b4, uf33r5, uf33b6, uf33b7, uf33r8, uf33b9, uf33b10, uf33r11, uf33b12, uf33b13, uf33b14, uf33r15, uf33b16]
  repeat' (first | with_reducible refine And.intro ?_ ?_ | with_reducible intro _)
  all_goals (simp only [varTypeV, varType]; (repeat' split) <;> simp_all <;> omega)
theorem s71 (t : Term) : Spec Try.prog 71 [.agg (encT t)] (fun r => r = pairV (leaf t)) := by
  refine Spec.of_awl hf71 okf71 (by simp) ?_
  simp only [encT_eq, lstC, map_len, q_wpLs_eq_1, q_wpLs_eq_2, q_wpLQs_eq_2, q_wpL_eq_1, q_wpLQ_eq_1, q_putDL_eq_1, q_AOp_dst_eq_8, q_AOp_dst_eq_10, q_AOp_dst_eq_20, q_exL_eq_1, q_exL_eq_3, q_exL_eq_5, q_exL_eq_8, q_exL_eq_11, q_exL_eq_21, q_exL_eq_28, q_exL_eq_30, q_exLQ_eq_9, q_exLQ_eq_22, q_exLQ_eq_29, q_look_eq_1, q_look_eq_2, q_insT_eq_1, q_insO_eq_1, q_awl_eq_1, q_awl_eq_2, q_awl_eq_3, q_awl_eq_5, q_awl_eq_6, q_awl_eq_7, q_awl_eq_10, q_AE_thenL_eq_1, q_AE_thenL_eq_3, q_AE_inBlockL_eq_1, q_AE_inBlockL_eq_3, q_initT_eq_1, q_initT_eq_2, q_putK_eq_1, q_vBin_eq_1, q_resV_eq_1, q_binV_eq_1, q_binInt_eq_3, q_cutInt_eq_6, q_cutInt_eq_8, q_cutInt_eq_10, q_vLen_eq_1, q_vFaddr_eq_1, q_loadO_eq_1, q_isV_eq_1, q_vLoad_eq_1, q_vPick_eq_1, q_vPick_eq_2, q_ofRow_eq_1, q_pureRow_eq_1, q_pureRow_eq_2, q_isVarO_eq_1, q_boxK_eq_1, q_mapT_eq_1, q_mapT_eq_2, q_mapO_eq_1, q_mapO_eq_2, q_freeB_eq_1, q_freeT_eq_1, q_freeT_eq_2, q_freeO_eq_1, q_V_noRef_eq_2, q_endK_eq_2, q_endL_eq_1, q_endV_eq_1, q_resL_eq_1, q_resL_eq_2, q_resX_eq_1, q_one_eq_2, q_V_nrm_eq_1, q_V_nrm_eq_2, q_V_nrm_eq_5, q_K_nrm_eq_1, q_K_nrm_eq_3, q_O_nrm_eq_1, q_V_owns_eq_1, q_V_owns_eq_3, q_K_owns_eq_2, q_V_ownsL_eq_1, q_V_ownsL_eq_2, q_V_toNew_eq_1, q_V_toNew_eq_4, q_K_toNew_eq_1, q_V_toNewL_eq_1, q_V_toNewL_eq_2, q_C_norm_eq_1, q_C_norm_eq_4, q_C_norm_eq_5, q_C_normRow_eq_1, q_C_normRow_eq_2, q_Bool_not_false, q_Option_map_some, q_List_map_cons, q_List_map_nil, q_List_take_succ_cons, q_List_take_zero, q_List_drop_succ_cons, q_List_drop_zero, q_List_length_cons, q_List_length_nil, true_and, if_true, if_false, Bool.false_eq_true, and_self, Bool.and_true, Bool.or_true, List.append_nil, List.nodup_nil, Nat.reduceAdd, Nat.reduceLeDiff, Nat.reduceBEq, Nat.zero_add, Nat.add_zero, Nat.le_refl, q_learn_eq_1, q_guardP_eq_2, q_condK_eq_1, q_condB_eq_1, q_condB_eq_2, q_exK_eq_1, condB_decide, condB_beq, normRows_T, List.length_map, lookT_here, lookT_next, lookO_here, uf71, uf71r9, uf71b10, uf71r16, uf71b17, uf71b18, uf71r19, uf71b20, uf71r21, uf71b22, uf71b23, uf71r24, uf71b25, uf71b26, uf71b27, uf71r28, uf71b29, uf71b30, uf71r31, uf71b32, uf71b33, uf71r34, uf71b35, uf71b36, uf71r37, uf71b38, uf71b39, uf71r40, uf71b41, uf71b42, uf71r43, uf71b44]
  repeat' (first | with_reducible refine And.intro ?_ ?_ | with_reducible intro _)
  all_goals first
    | (refine callQ_scalar (s93 t.n) rfl rfl rfl ?_
       simp only [q_wpLs_eq_1, q_wpLs_eq_2, q_wpLQs_eq_1, q_wpLQs_eq_2, q_wpL_eq_1, q_wpLQ_eq_1, q_exL_eq_1, q_exLQ_eq_9, q_exLQ_eq_12, q_exLQ_eq_22, q_look_eq_1, q_look_eq_2, q_insT_eq_1, q_awl_eq_1, q_awl_eq_2, q_awl_eq_5, q_awl_eq_6, q_awl_eq_10, q_AE_thenL_eq_1, q_AE_thenL_eq_3, q_AE_inBlockL_eq_3, q_putK_eq_1, q_vBin_eq_1, q_resV_eq_1, q_binV_eq_1, q_binInt_eq_3, q_cutInt_eq_7, q_vFaddr_eq_1, q_loadO_eq_1, q_isV_eq_1, q_vLoad_eq_1, q_ofRow_eq_1, q_pureRow_eq_1, q_pureRow_eq_2, q_isVarO_eq_1, q_mapT_eq_1, q_mapT_eq_2, q_mapO_eq_1, q_mapO_eq_2, q_endK_eq_2, q_endL_eq_1, q_endV_eq_1, q_resL_eq_1, q_resL_eq_2, q_resX_eq_1, q_one_eq_2, q_V_nrm_eq_1, q_V_nrm_eq_2, q_K_nrm_eq_1, q_K_nrm_eq_3, q_O_nrm_eq_1, q_V_owns_eq_1, q_V_owns_eq_3, q_K_owns_eq_2, q_V_ownsL_eq_1, q_V_ownsL_eq_2, q_V_toNew_eq_1, q_V_toNew_eq_4, q_K_toNew_eq_1, q_V_toNewL_eq_1, q_V_toNewL_eq_2, q_C_norm_eq_1, q_C_norm_eq_4, q_C_norm_eq_5, q_C_normRow_eq_1, q_C_normRow_eq_2, q_V_fz_eq_1, q_K_fz_eq_2, q_Option_map_some, q_List_map_cons, q_List_map_nil, q_List_take_succ_cons, q_List_take_zero, q_List_drop_succ_cons, q_List_drop_zero, q_List_length_cons, q_List_length_nil, true_and, if_true, if_false, Bool.false_eq_true, and_self, List.append_nil, List.nodup_nil, Nat.reduceAdd, Nat.reduceLeDiff, Nat.reduceBEq, Nat.zero_add, q_learn_eq_1, q_condK_eq_1, condB_bne, normRows_T, lookT_here, lookT_next, lookO_here, uf71r11, uf71b12, uf71r13, uf71b14, uf71b15]
       repeat' (first | with_reducible refine And.intro ?_ ?_ | with_reducible intro _)
       all_goals simp_all [leaf, pairV]
       done)
    | (refine call_scalar (s33 t.n) rfl rfl rfl ?_
       simp only [varTypeV, condB_iff, q_wpLs_eq_1, q_wpLs_eq_2, q_wpL_eq_1, q_exL_eq_1, q_exL_eq_15, q_exL_eq_27, q_look_eq_1, q_look_eq_2, q_insT_eq_1, q_awl_eq_1, q_awl_eq_2, q_awl_eq_5, q_awl_eq_6, q_awl_eq_10, q_AE_thenL_eq_1, q_AE_thenL_eq_3, q_putK_eq_1, q_vUn_eq_1, q_unV_eq_2, q_mapC_eq_1, q_vExtr_eq_1, q_mapT_eq_1, q_mapT_eq_2, q_mapO_eq_1, q_mapO_eq_2, q_endK_eq_2, q_endL_eq_1, q_endV_eq_1, q_resL_eq_1, q_resL_eq_2, q_resX_eq_1, q_one_eq_2, q_V_nrm_eq_1, q_V_nrm_eq_2, q_V_nrm_eq_4, q_K_nrm_eq_1, q_K_nrm_eq_3, q_V_nrmL_eq_1, q_V_nrmL_eq_2, q_O_nrm_eq_1, q_V_owns_eq_1, q_V_owns_eq_3, q_K_owns_eq_2, q_V_ownsL_eq_1, q_V_ownsL_eq_2, q_V_toNew_eq_1, q_V_toNew_eq_4, q_K_toNew_eq_1, q_V_toNewL_eq_1, q_V_toNewL_eq_2, q_C_norm_eq_1, q_C_norm_eq_4, q_C_norm_eq_5, q_C_normRow_eq_1, q_C_normRow_eq_2, q_List_map_cons, q_List_map_nil, q_List_getElemQ_cons_zero, q_List_getElemQ_cons_succ, true_and, and_self, Bool.not_eq_true', Bool.not_eq_false', List.append_nil, List.nodup_nil, Nat.reduceBEq, q_learn_eq_1, q_condK_eq_1, normRows_T, lookT_here, lookT_next, uf71r1, uf71b2, uf71r3, uf71b4, uf71b5, uf71r6, uf71b7, uf71b8]
       cases hv : varType t.n <;> simp_all [leaf, pairV]
       done)
    | (simp_all [leaf, pairV]; done)
    | (simp_all [leaf, pairV]; rw [if_neg (by omega)]; simp; done)
    | (simp_all [leaf, pairV]; rw [if_pos (by omega)]; simp; done)
end Go.Abs


set_option maxRecDepth 100000
set_option maxHeartbeats 4000000
namespace Go.Abs
open Go.Proofs
end Go.Abs


set_option maxRecDepth 100000
set_option maxHeartbeats 4000000
namespace Go.Abs
open Go.Proofs
def inN (n : Int) : Prop := -1099511627776 ≤ n ∧ n ≤ 1099511627776
end Go.Abs


set_option maxRecDepth 100000
namespace Go.Abs
open Go.Proofs
theorem s58 : ∀ (lv : Nat) (t : Term) (k : Int), 0 ≤ k → k ≤ 1000000 → lv ≤ 1000000 → Spec Try.prog 58 [.agg (encT t), .int .i64 k, .int .i64 lv] (fun r => r = .int .i64 (nodes t k lv)) := by
  intro lv
  induction lv with
  | zero =>
    intro t k h1 h2 h3
    refine Spec.of_awl hf58 okf58 (by simp) ?_
    have hw : IntKind.i64.wrap (k - 1) = k - 1 := wrap_in (by omega) (by omega)
    have hl : ((0 : Nat) : Int) < 1 := by omega
    simp only [encT_eq, lstC, map_len, hw, hl, not_true_eq_false, q_wpLs_eq_1, q_wpLs_eq_2, q_wpL_eq_1, q_exL_eq_1, q_exL_eq_5, q_exL_eq_11, q_look_eq_1, q_look_eq_2, q_insT_eq_1, q_insO_eq_1, q_awl_eq_2, q_awl_eq_5, q_awl_eq_6, q_awl_eq_10, q_AE_thenL_eq_1, q_AE_thenL_eq_3, q_initT_eq_1, q_initT_eq_2, q_putK_eq_1, q_vBin_eq_1, q_resV_eq_1, q_binV_eq_1, q_binInt_eq_3, q_cutInt_eq_2, q_cutInt_eq_8, q_boxK_eq_1, q_mapT_eq_1, q_mapT_eq_2, q_mapO_eq_1, q_mapO_eq_2, q_freeB_eq_1, q_freeT_eq_1, q_freeT_eq_2, q_freeO_eq_1, q_V_noRef_eq_1, q_V_noRef_eq_2, q_K_noRef_eq_1, q_endK_eq_2, q_endL_eq_1, q_endV_eq_1, q_resL_eq_1, q_resL_eq_2, q_resX_eq_1, q_one_eq_1, q_V_nrm_eq_1, q_V_nrm_eq_2, q_K_nrm_eq_1, q_K_nrm_eq_3, q_O_nrm_eq_1, q_V_owns_eq_1, q_K_owns_eq_2, q_V_toNew_eq_1, q_K_toNew_eq_1, q_C_norm_eq_1, q_C_norm_eq_4, q_C_norm_eq_5, q_C_normRow_eq_1, q_C_normRow_eq_2, q_List_map_cons, q_List_map_nil, true_and, if_true, and_self, Bool.and_true, Bool.or_true, Int.reduceNeg, List.nodup_nil, Nat.reduceAdd, Nat.reduceBEq, Nat.zero_add, q_learn_eq_1, q_condK_eq_1, q_condB_eq_1, decide_true, normRows_T, lookT_here, lookT_next, Int.reduceLT, Int.cast_ofNat_Int, uf58, uf58r16, uf58b17, uf58b18, uf58r19, uf58b20, uf58b21, uf58r22, uf58b23, uf58r24, uf58b25]
    rw [nodes_eq]
    simp
  | succ lv ih =>
    intro t k h1 h2 h3
    refine Spec.of_len hf58 fun hlen => ?_
    replace hlen : t.args.length ≤ 9223372036854775807 := by
      have := hlen (.agg (encT t)) (by simp) (lstC 3 (t.args.map encT)) (by rw [encT_eq]; simp [V.topC]) _ _ _ rfl
      simpa using this
    refine Spec.of_awl hf58 okf58 (by simp) ?_
    have hw : IntKind.i64.wrap (k - 1) = k - 1 := wrap_in (by omega) (by omega)
    have hl : ¬ ((lv + 1 : Nat) : Int) < 1 := by omega
    simp only [encT_eq, lstC, map_len, hw, hl, not_true_eq_false, not_false_eq_true, q_wpLs_eq_1, q_wpLs_eq_2, q_wpL_eq_1, q_exL_eq_1, q_exL_eq_5, q_exL_eq_11, q_look_eq_1, q_look_eq_2, q_insT_eq_1, q_insO_eq_1, q_awl_eq_1, q_awl_eq_2, q_awl_eq_5, q_awl_eq_6, q_awl_eq_7, q_AE_thenL_eq_1, q_initT_eq_1, q_initT_eq_2, q_putK_eq_1, q_vBin_eq_1, q_resV_eq_1, q_binV_eq_1, q_binInt_eq_3, q_cutInt_eq_2, q_cutInt_eq_8, q_boxK_eq_1, q_freeB_eq_1, q_freeT_eq_1, q_freeT_eq_2, q_freeO_eq_1, q_V_noRef_eq_1, q_V_noRef_eq_2, q_K_noRef_eq_1, q_List_map_cons, q_List_map_nil, true_and, if_true, Bool.and_true, Bool.or_true, Nat.reduceAdd, Nat.reduceBEq, Nat.zero_add, q_learn_eq_1, q_condK_eq_1, q_condB_eq_2, decide_false, lookT_here, lookT_next, uf58, uf58b12, uf58r13, uf58b14, uf58b15, uf58b18, uf58r19, uf58b20, uf58b21, uf58r22, uf58b23, uf58r24, uf58b25]
    rw [uf58l11]
    refine awl_loop (fun x : Nat × Int => [(1, .int .i64 x.2), (2, .int .i64 ((lv + 1 : Nat) : Int)), (3, .k (.ptr 3 0)), (7, .int .i64 x.1)]) (fun _ => [(3, .var 41 ((encT t).map .c))])
      (fun x => x.1 ≤ t.args.length ∧ -1 ≤ x.2 ∧ x.2 ≤ 1000000 ∧ nodesL (t.args.drop x.1) x.2 lv = nodesL t.args (k - 1) lv) (fun x => t.args.length - x.1) (0, k - 1) rfl (by rw [encT_eq]; rfl) ⟨Nat.zero_le _, by simp only []; omega, by simp only []; omega, rfl⟩ ?_
    rintro ⟨i, n⟩ ⟨hi, hn1, hn2, hj⟩
    simp only [] at hi hn1 hn2 hj
    have hfin : nodes t k ((lv + 1 : Nat) : Int) = nodesL t.args (k - 1) lv := by
      rw [nodes_eq, if_neg hl]
      congr 1; omega
    by_cases hlt : i < t.args.length
    · have c1 : (i : Int) < t.args.length := by omega
      have c3 : IntKind.i64.wrap (((lv + 1 : Nat) : Int) - 1) = (lv : Int) := by rw [wrap_in (by omega) (by omega)]; omega
      have c4 : IntKind.i64.wrap ((i : Int) + 1) = (i : Int) + 1 := wrap_in (by omega) (by omega)
      simp only [encT_eq t, lstC, map_len, map_isEmpty, sz_of hlt, map_at hlt, encT_len, c1, c3, not_true_eq_false, q_wpLs_eq_1, q_wpLs_eq_2, q_wpL_eq_1, q_AOp_dst_eq_1, q_AOp_dst_eq_10, q_exL_eq_1, q_exL_eq_3, q_exL_eq_8, q_exL_eq_11, q_exL_eq_21, q_exL_eq_23, q_exL_eq_28, q_exL_eq_30, q_look_eq_1, q_look_eq_2, q_insT_eq_1, q_awl_eq_1, q_awl_eq_2, q_awl_eq_5, q_awl_eq_6, q_awl_eq_7, q_awl_eq_9, q_awl_eq_10, q_AE_thenL_eq_1, q_AE_thenL_eq_2, q_AE_inBlockL_eq_1, q_AE_inBlockL_eq_2, q_putK_eq_1, q_vBin_eq_1, q_resV_eq_1, q_binV_eq_1, q_binInt_eq_3, q_cutInt_eq_2, q_cutInt_eq_8, q_cutInt_eq_11, q_vLen_eq_1, q_vFaddr_eq_1, q_partV_eq_1, q_loadO_eq_1, q_isV_eq_1, q_vLoad_eq_1, q_vLoad_eq_2, q_vIaddr_eq_1, q_vPick_eq_1, q_ofRow_eq_1, q_pureRow_eq_1, q_pureRow_eq_2, q_isVarO_eq_1, q_mapT_eq_1, q_mapT_eq_2, q_mapO_eq_1, q_mapO_eq_2, q_endK_eq_2, q_endL_eq_1, q_endV_eq_1, q_resL_eq_1, q_resL_eq_2, q_resX_eq_1, q_one_eq_1, q_V_nrm_eq_1, q_K_nrm_eq_1, q_K_nrm_eq_3, q_O_nrm_eq_1, q_V_owns_eq_1, q_K_owns_eq_2, q_V_toNew_eq_1, q_K_toNew_eq_1, q_C_norm_eq_1, q_C_norm_eq_4, q_C_norm_eq_5, q_Bool_not_true, q_Option_map_some, q_List_map_cons, q_List_map_nil, q_List_take_succ_cons, q_List_take_zero, q_List_drop_succ_cons, q_List_drop_zero, q_List_length_cons, q_List_length_nil, true_and, if_true, if_false, Bool.false_eq_true, and_self, Int.reduceNeg, List.nodup_nil, Nat.reduceAdd, Nat.reduceBEq, Nat.zero_add, Int.toNat_natCast, Nat.le_refl, Int.natCast_nonneg, q_learn_eq_1, q_guardP_eq_1, q_condK_eq_1, q_condB_eq_1, q_exK_eq_1, condB_decide, decide_true, normRows_T, List.length_map, lookT_here, lookT_next, lookO_here, uf58r1, uf58b2, uf58r3, uf58r4, uf58b5, uf58b6, uf58b7, uf58r8, uf58b9, uf58b10]
      refine ⟨fun h5 => ?_, fun h5 => ?_⟩
      · have hb := nodes_bd t.args[i] n lv (by omega)
        refine call_scalar (ih t.args[i] n (by omega) (by omega) (by omega)) rfl (by simp [lendL, V.norm, C.norm, encT_norm]) rfl ?_
        simp only [c4, q_wpLs_eq_1, q_wpLs_eq_2, q_wpL_eq_1, q_exL_eq_1, q_exL_eq_11, q_look_eq_1, q_look_eq_2, q_insT_eq_1, q_awl_eq_2, q_AE_thenL_eq_1, q_putK_eq_1, q_vBin_eq_1, q_resV_eq_1, q_binV_eq_1, q_binInt_eq_3, q_cutInt_eq_1, true_and, if_true, Int.reduceNeg, Nat.reduceBEq, lookT_here, lookT_next]
        refine Next.intro (i + 1, nodes t.args[i] n lv) rfl rfl ⟨by simp only []; omega, by simp only []; omega, by simp only []; omega, ?_⟩ (by simp only []; omega)
        rw [← hj, nodesL_drop hlt, if_neg (by omega)]
      · rw [hfin, ← hj, nodesL_neg _ _ _ (by omega)]
    · have c1 : ¬ (i : Int) < t.args.length := by omega
      simp only [encT_eq, lstC, map_len, c1, not_true_eq_false, not_false_eq_true, q_wpLs_eq_1, q_wpLs_eq_2, q_wpL_eq_1, q_putDL_eq_1, q_AOp_dst_eq_1, q_AOp_dst_eq_10, q_exL_eq_1, q_exL_eq_3, q_exL_eq_8, q_exL_eq_11, q_exL_eq_21, q_exL_eq_30, q_look_eq_1, q_look_eq_2, q_insT_eq_1, q_awl_eq_2, q_awl_eq_5, q_awl_eq_6, q_awl_eq_9, q_awl_eq_10, q_AE_thenL_eq_1, q_AE_thenL_eq_2, q_AE_inBlockL_eq_2, q_putK_eq_1, q_vBin_eq_1, q_resV_eq_1, q_binV_eq_1, q_binInt_eq_3, q_cutInt_eq_8, q_vLen_eq_1, q_vFaddr_eq_1, q_loadO_eq_1, q_isV_eq_1, q_vLoad_eq_1, q_vPick_eq_3, q_ofRow_eq_1, q_pureRow_eq_1, q_pureRow_eq_2, q_isVarO_eq_1, q_mapT_eq_1, q_mapT_eq_2, q_mapO_eq_1, q_mapO_eq_2, q_endK_eq_2, q_endL_eq_1, q_endV_eq_1, q_resL_eq_1, q_resL_eq_2, q_resX_eq_1, q_one_eq_1, q_V_nrm_eq_1, q_V_nrm_eq_5, q_K_nrm_eq_1, q_K_nrm_eq_3, q_O_nrm_eq_1, q_V_owns_eq_1, q_K_owns_eq_2, q_V_toNew_eq_1, q_K_toNew_eq_1, q_C_norm_eq_1, q_C_norm_eq_4, q_C_norm_eq_5, q_Bool_not_true, q_Option_map_some, q_List_map_cons, q_List_map_nil, q_List_take_succ_cons, q_List_take_zero, q_List_drop_succ_cons, q_List_drop_zero, q_List_length_cons, q_List_length_nil, true_and, if_true, if_false, Bool.false_eq_true, and_self, Int.reduceNeg, List.nodup_nil, Nat.reduceAdd, Nat.reduceBEq, Nat.zero_add, Nat.le_refl, q_learn_eq_1, q_guardP_eq_1, q_condK_eq_1, q_condB_eq_2, decide_false, normRows_T, List.length_map, lookT_here, lookT_next, lookO_here, uf58r1, uf58b2, uf58b7, uf58r8, uf58b9, uf58b10]
      rw [hfin, ← hj, List.drop_eq_nil_of_le (by omega), nodesL]
end Go.Abs


set_option maxRecDepth 100000
namespace Go.Abs
open Go.Proofs
theorem s59 : ∀ (f : Nat) (t : Term), f ≤ 8 → Spec Try.prog 59 [.agg (encT t), .int .i64 (9 - (f : Int))] (fun r => r = .int .i64 (meas f t)) := by
  intro f
  induction f with
  | zero =>
    intro t hf
    refine Spec.of_awl hf59 okf59 (by simp) ?_
    have c1 : (9 : Int) - ((0 : Nat) : Int) > 8 := by omega
    simp only [encT_eq, lstC, map_len, c1, not_true_eq_false, q_wpLs_eq_1, q_wpLs_eq_2, q_wpL_eq_1, q_exL_eq_1, q_exL_eq_5, q_exL_eq_11, q_look_eq_1, q_look_eq_2, q_insT_eq_1, q_insO_eq_1, q_awl_eq_2, q_awl_eq_5, q_awl_eq_6, q_awl_eq_10, q_AE_thenL_eq_1, q_AE_thenL_eq_3, q_initT_eq_1, q_initT_eq_2, q_putK_eq_1, q_vBin_eq_1, q_resV_eq_1, q_binV_eq_1, q_binInt_eq_3, q_cutInt_eq_10, q_boxK_eq_1, q_mapT_eq_1, q_mapT_eq_2, q_mapO_eq_1, q_mapO_eq_2, q_freeB_eq_1, q_freeT_eq_1, q_freeT_eq_2, q_freeO_eq_1, q_V_noRef_eq_1, q_V_noRef_eq_2, q_K_noRef_eq_1, q_endK_eq_2, q_endL_eq_1, q_endV_eq_1, q_resL_eq_1, q_resL_eq_2, q_resX_eq_1, q_one_eq_1, q_V_nrm_eq_1, q_V_nrm_eq_2, q_K_nrm_eq_1, q_K_nrm_eq_3, q_O_nrm_eq_1, q_V_owns_eq_1, q_K_owns_eq_2, q_V_toNew_eq_1, q_K_toNew_eq_1, q_C_norm_eq_1, q_C_norm_eq_4, q_C_norm_eq_5, q_C_normRow_eq_1, q_C_normRow_eq_2, q_List_map_cons, q_List_map_nil, true_and, if_true, and_self, Bool.and_true, Bool.or_true, List.nodup_nil, Nat.reduceAdd, Nat.reduceBEq, Nat.zero_add, q_learn_eq_1, q_condK_eq_1, q_condB_eq_1, decide_true, normRows_T, lookT_here, lookT_next, Int.reduceGT, Int.reduceSub, Int.cast_ofNat_Int, uf59, uf59r24, uf59b25, uf59b26, uf59r27, uf59b28, uf59b29, uf59r30, uf59b31]
    rfl
  | succ f ih =>
    intro t hf
    refine Spec.of_len hf59 fun hlen => ?_
    replace hlen : t.args.length ≤ 9223372036854775807 := by
      have := hlen (.agg (encT t)) (by simp) (lstC 3 (t.args.map encT)) (by rw [encT_eq]; simp [V.topC]) _ _ _ rfl
      simpa using this
    refine Spec.of_awl hf59 okf59 (by simp) ?_
    have hl : ¬ ((9 : Int) - ((f + 1 : Nat) : Int)) > 8 := by omega
    simp only [encT_eq, lstC, map_len, hl, not_true_eq_false, not_false_eq_true, q_wpLs_eq_1, q_wpLs_eq_2, q_wpL_eq_1, q_exL_eq_1, q_exL_eq_5, q_exL_eq_8, q_exL_eq_11, q_exL_eq_21, q_exL_eq_30, q_look_eq_1, q_look_eq_2, q_insT_eq_1, q_insO_eq_1, q_awl_eq_1, q_awl_eq_2, q_awl_eq_5, q_awl_eq_6, q_awl_eq_7, q_AE_thenL_eq_1, q_initT_eq_1, q_initT_eq_2, q_putK_eq_1, q_vBin_eq_1, q_resV_eq_1, q_binV_eq_1, q_binInt_eq_3, q_cutInt_eq_10, q_vLen_eq_1, q_vFaddr_eq_1, q_loadO_eq_1, q_isV_eq_1, q_vLoad_eq_1, q_ofRow_eq_1, q_pureRow_eq_1, q_pureRow_eq_2, q_isVarO_eq_1, q_boxK_eq_1, q_freeB_eq_1, q_freeT_eq_1, q_freeT_eq_2, q_freeO_eq_1, q_V_noRef_eq_1, q_V_noRef_eq_2, q_K_noRef_eq_1, q_Option_map_some, q_List_map_cons, q_List_map_nil, q_List_take_succ_cons, q_List_take_zero, q_List_drop_succ_cons, q_List_drop_zero, q_List_length_cons, q_List_length_nil, true_and, if_true, if_false, Bool.false_eq_true, Bool.and_true, Bool.or_true, Nat.reduceAdd, Nat.reduceBEq, Nat.zero_add, Nat.le_refl, q_learn_eq_1, q_condK_eq_1, q_condB_eq_2, decide_false, List.length_map, lookT_here, lookT_next, lookO_here, uf59, uf59b18, uf59r19, uf59b20, uf59b21, uf59r22, uf59b23, uf59b26, uf59r27, uf59b28, uf59b29, uf59r30, uf59b31]
    rw [uf59l17]
    refine awl_loop (fun x : Nat × Int => [(1, .int .i64 (9 - ((f + 1 : Nat) : Int))), (5, .int .i64 x.2), (11, .k (.c (.list (if (List.map encT t.args).isEmpty = true then 0 else 3) none (List.map encT t.args)))), (12, .int .i64 (t.args.length : Int)), (13, .int .i64 x.1)]) (fun _ => [])
      (fun x => x.1 ≤ t.args.length ∧ 1 ≤ x.2 ∧ x.2 ≤ 60 ∧ measL (meas f) (t.args.drop x.1) x.2 = measL (meas f) t.args 1) (fun x => t.args.length - x.1) (0, 1) rfl rfl ⟨Nat.zero_le _, by simp only []; omega, by simp only []; omega, rfl⟩ ?_
    rintro ⟨i, n⟩ ⟨hi, hn1, hn2, hj⟩
    simp only [] at hi hn1 hn2 hj
    by_cases hlt : i < t.args.length
    · have c1 : (i : Int) < t.args.length := by omega
      have c3 : IntKind.i64.wrap (9 - ((f + 1 : Nat) : Int) + 1) = 9 - (f : Int) := by rw [wrap_in (by omega) (by omega)]; omega
      have c4 : IntKind.i64.wrap ((i : Int) + 1) = (i : Int) + 1 := wrap_in (by omega) (by omega)
      simp only [encT_eq, lstC, map_len, map_isEmpty, sz_of hlt, map_at hlt, c1, c3, not_true_eq_false, q_wpLs_eq_1, q_wpLs_eq_2, q_wpL_eq_1, q_exL_eq_1, q_exL_eq_4, q_exL_eq_8, q_exL_eq_9, q_exL_eq_11, q_exL_eq_23, q_exL_eq_28, q_look_eq_1, q_look_eq_2, q_lookO_eq_1, q_insT_eq_1, q_insO_eq_1, q_awl_eq_1, q_awl_eq_2, q_awl_eq_5, q_awl_eq_6, q_awl_eq_7, q_AE_thenL_eq_1, q_putK_eq_1, q_vBin_eq_1, q_resV_eq_1, q_binV_eq_1, q_binInt_eq_3, q_cutInt_eq_1, q_cutInt_eq_8, q_partV_eq_1, q_loadO_eq_1, q_isV_eq_1, q_vLoad_eq_1, q_vLoad_eq_2, q_vIaddr_eq_1, q_ofRow_eq_2, q_pureRow_eq_1, q_pureRow_eq_2, q_V_cells_eq_2, q_splice_eq_1, q_stVarK_eq_1, q_storeK_eq_1, q_freeB_eq_1, q_freeT_eq_1, q_freeT_eq_2, q_freeO_eq_1, q_V_noRef_eq_1, q_V_noRef_eq_2, q_K_noRef_eq_1, q_K_noRef_eq_5, q_Option_map_some, q_List_map_cons, q_List_map_nil, q_List_take_succ_cons, q_List_take_zero, q_List_drop_succ_cons, q_List_drop_zero, q_List_nil_append, q_List_length_cons, q_List_length_nil, true_and, if_true, and_self, Bool.and_true, Bool.or_true, List.append_nil, Nat.reduceAdd, Nat.reduceBEq, Nat.zero_add, Int.toNat_natCast, Nat.le_refl, Int.natCast_nonneg, q_learn_eq_1, q_condK_eq_1, q_condB_eq_1, decide_true, List.length_map, lookT_here, lookT_next, lookO_here, uf59r3, uf59r7, uf59b8, uf59r9, uf59b10, uf59b11, uf59b12, uf59b13, uf59b14, uf59r15, uf59b16]
      have hb := meas_bd f t.args[i]
      have c5 : IntKind.i64.wrap (n + meas f t.args[i]) = n + meas f t.args[i] := wrap_in (by omega) (by omega)
      refine call_scalar (ih t.args[i] (by omega)) rfl (by simp [lendL, V.norm, C.norm, ← norm_T, map_isEmpty]) rfl ?_
      simp only [c4, c5, q_wpLs_eq_1, q_wpLs_eq_2, q_wpL_eq_1, q_exL_eq_1, q_exL_eq_11, q_look_eq_1, q_look_eq_2, q_insT_eq_1, q_awl_eq_1, q_awl_eq_2, q_awl_eq_5, q_awl_eq_6, q_awl_eq_9, q_awl_eq_10, q_AE_thenL_eq_1, q_AE_thenL_eq_2, q_AE_inBlockL_eq_1, q_AE_inBlockL_eq_2, q_putK_eq_1, q_vBin_eq_1, q_resV_eq_1, q_binV_eq_1, q_binInt_eq_3, q_cutInt_eq_1, q_cutInt_eq_10, q_mapT_eq_1, q_mapT_eq_2, q_mapO_eq_1, q_mapO_eq_2, q_endK_eq_2, q_endL_eq_1, q_endV_eq_1, q_resL_eq_1, q_resL_eq_2, q_resX_eq_1, q_one_eq_1, q_V_nrm_eq_1, q_V_nrm_eq_2, q_K_nrm_eq_1, q_K_nrm_eq_2, q_K_nrm_eq_3, q_O_nrm_eq_1, q_V_owns_eq_1, q_K_owns_eq_2, q_V_toNew_eq_1, q_K_toNew_eq_1, q_C_norm_eq_1, q_C_norm_eq_4, q_C_norm_eq_5, q_C_normRow_eq_1, q_C_normRow_eq_2, q_C_normRows_eq_1, q_List_map_cons, q_List_map_nil, q_List_isEmpty_nil, true_and, if_true, if_false, and_self, List.nodup_nil, Nat.reduceBEq, Nat.zero_ne_one, q_learn_eq_1, q_condK_eq_1, condB_decide, normRows_T, lookT_here, lookT_next, uf59r1, uf59b2, uf59b4, uf59r5, uf59b6]
      refine ⟨fun h6 => ?_, fun h6 => ?_⟩
      · rw [meas, ← hj, measL_drop hlt, if_pos h6]
      · refine Next.intro (i + 1, n + meas f t.args[i]) rfl rfl ⟨by simp only []; omega, by simp only []; omega, by simp only []; omega, ?_⟩ (by simp only []; omega)
        rw [← hj, measL_drop hlt, if_neg h6]
    · have c1 : ¬ (i : Int) < t.args.length := by omega
      simp only [encT_eq, lstC, map_len, c1, not_true_eq_false, not_false_eq_true, q_wpLs_eq_1, q_wpLs_eq_2, q_wpL_eq_1, q_exL_eq_1, q_exL_eq_11, q_look_eq_1, q_lookO_eq_1, q_insT_eq_1, q_awl_eq_2, q_awl_eq_5, q_awl_eq_6, q_awl_eq_9, q_awl_eq_10, q_AE_thenL_eq_1, q_AE_thenL_eq_2, q_AE_inBlockL_eq_2, q_putK_eq_1, q_vBin_eq_1, q_resV_eq_1, q_binV_eq_1, q_binInt_eq_3, q_cutInt_eq_8, q_mapT_eq_1, q_mapT_eq_2, q_mapO_eq_1, q_endK_eq_2, q_endL_eq_1, q_endV_eq_1, q_resL_eq_1, q_resL_eq_2, q_resX_eq_1, q_one_eq_1, q_V_nrm_eq_1, q_K_nrm_eq_1, q_V_owns_eq_1, q_K_owns_eq_2, q_V_toNew_eq_1, q_K_toNew_eq_1, q_C_norm_eq_1, q_C_norm_eq_4, q_C_norm_eq_5, true_and, if_true, and_self, List.nodup_nil, Nat.reduceBEq, q_learn_eq_1, q_condK_eq_1, q_condB_eq_2, decide_false, normRows_T, lookT_here, lookT_next, uf59r1, uf59b2, uf59b13, uf59b14, uf59r15, uf59b16]
      rw [meas, ← hj, List.drop_eq_nil_of_le (by omega), measL]
end Go.Abs


set_option maxRecDepth 100000
namespace Go.Abs
open Go.Proofs
theorem s72 (op : Int) : Spec Try.prog 72 [.int .i64 op] (fun r => r = shapeV op) := by
  refine Spec.of_awl hf72 okf72 (by simp) ?_
  simp only [q_wpLs_eq_1, q_wpLs_eq_2, q_wpL_eq_1, q_exL_eq_1, q_exL_eq_4, q_exL_eq_6, q_exL_eq_7, q_exL_eq_9, q_exL_eq_11, q_look_eq_1, q_look_eq_2, q_insT_eq_1, q_insO_eq_1, q_awl_eq_1, q_awl_eq_2, q_awl_eq_5, q_awl_eq_6, q_awl_eq_7, q_awl_eq_10, q_AE_thenL_eq_1, q_AE_thenL_eq_3, q_AE_inBlockL_eq_1, q_AE_inBlockL_eq_3, q_initT_eq_1, q_initT_eq_2, q_putK_eq_1, q_vBin_eq_1, q_resV_eq_1, q_binV_eq_1, q_binInt_eq_3, q_cutInt_eq_6, q_vBuild_eq_1, q_vBuild_eq_2, q_rowV_eq_1, q_ofRow_eq_2, q_pureRow_eq_3, q_V_cells_eq_1, q_V_cells_eq_3, q_splice_eq_1, q_isArrO_eq_1, q_vRow_eq_1, q_vLits_eq_1, q_vLits_eq_2, q_bsK_eq_1, q_stVarK_eq_1, q_storeK_eq_1, q_mapT_eq_1, q_mapT_eq_2, q_mapO_eq_1, q_mapO_eq_2, q_freeB_eq_1, q_freeT_eq_1, q_freeT_eq_2, q_freeO_eq_1, q_freeO_eq_2, q_V_noRef_eq_1, q_K_noRef_eq_1, q_K_noRef_eq_3, q_O_noRef_eq_1, q_endK_eq_2, q_endL_eq_1, q_endV_eq_1, q_resL_eq_1, q_resL_eq_2, q_resX_eq_2, q_resCell_eq_1, q_one_eq_1, q_V_nrm_eq_1, q_V_nrm_eq_3, q_K_nrm_eq_1, q_K_nrm_eq_3, q_O_nrm_eq_1, q_O_nrm_eq_2, q_V_owns_eq_2, q_K_owns_eq_1, q_K_owns_eq_2, q_V_toNew_eq_3, q_K_toNew_eq_1, q_K_toNew_eq_2, q_C_norm_eq_1, q_C_norm_eq_4, q_C_norm_eq_5, q_C_normRow_eq_1, q_C_normRow_eq_2, q_C_normRows_eq_1, q_C_normRows_eq_2, q_List_map_cons, q_List_map_nil, q_List_take_succ_cons, q_List_take_zero, q_List_drop_succ_cons, q_List_drop_zero, q_List_nil_append, q_List_cons_append, q_List_foldl_cons, q_List_foldl_nil, q_List_replicate_succ, q_List_replicate_zero, q_List_set_cons_zero, q_List_set_cons_succ, q_List_length_cons, q_List_length_nil, q_List_flatMap_cons, q_List_flatMap_nil, q_List_all_cons, q_List_all_nil, q_List_isEmpty_nil, true_and, if_true, forall_eq_or_imp, forall_eq, or_false, and_self, bne_iff_ne, ne_eq, Bool.and_true, Bool.true_and, Bool.or_true, Bool.false_or, Int.reduceNeg, List.append_nil, List.mem_cons, List.nodup_nil, List.nodup_cons, Nat.reduceAdd, Nat.reduceEqDiff, Nat.reduceLeDiff, Nat.reduceLT, Nat.reduceBEq, Nat.zero_add, Nat.le_refl, q_learn_eq_1, not_false_eq_true, q_condK_eq_1, q_condB_eq_1, condB_beq, lookT_here, lookT_next, lookO_here, lookO_next, List.not_mem_nil, uf72, uf72r1, uf72b2, uf72r3, uf72b4, uf72r5, uf72b6, uf72r7, uf72b8, uf72r9, uf72b10, uf72r11, uf72b12, uf72b13, uf72r14, uf72b15, uf72b16, uf72r17, uf72b18, uf72b19, uf72r20, uf72b21, uf72b22, uf72r23, uf72b24, uf72r25, uf72b26, uf72b27, uf72b28, uf72r29, uf72b30, uf72b31, uf72r32, uf72b33, uf72b34, uf72r35, uf72b36]
  repeat' (first | apply And.intro | intro _)
  all_goals simp_all [shapeV, shapeArgs, shapeRes, ints]
end Go.Abs


set_option maxRecDepth 100000
set_option maxHeartbeats 4000000
namespace Go.Abs
open Go.Proofs
theorem s60 : ∀ (f : Nat) (t : Term), Narrow f t → Spec Try.prog 60 [.agg (encT t)] (fun r => r = pairV (chk t)) := by
  intro f
  induction f with
  | zero => intro t h; exact h.elim
  | succ f ih =>
    intro t hN
    refine Spec.of_awl hf60 okf60 (by simp) ?_
    have hlen : t.args.length ≤ 1000 := hN.1
    simp only [encT_eq t, q_wpLs_eq_1, q_wpLs_eq_2, q_wpL_eq_1, q_exL_eq_1, q_exL_eq_5, q_exL_eq_8, q_exL_eq_18, q_exL_eq_21, q_exL_eq_30, q_look_eq_1, q_look_eq_2, q_insT_eq_1, q_insO_eq_1, q_awl_eq_2, q_awl_eq_5, q_awl_eq_7, q_AE_thenL_eq_1, q_initT_eq_1, q_initT_eq_2, q_putK_eq_1, q_vFaddr_eq_1, q_loadO_eq_1, q_isV_eq_1, q_vLoad_eq_1, q_ofRow_eq_1, q_pureRow_eq_1, q_pureRow_eq_2, q_isVarO_eq_1, q_boxK_eq_1, q_mkslK_eq_1, q_freeB_eq_1, q_freeT_eq_1, q_freeT_eq_2, q_freeO_eq_1, q_freeO_eq_2, q_V_noRef_eq_1, q_V_noRef_eq_2, q_K_noRef_eq_1, q_K_noRef_eq_3, q_O_noRef_eq_1, q_Option_map_some, q_List_map_cons, q_List_map_nil, q_List_take_succ_cons, q_List_take_zero, q_List_drop_succ_cons, q_List_drop_zero, q_List_length_cons, q_List_length_nil, q_List_all_cons, q_List_all_nil, true_and, if_false, Bool.false_eq_true, and_self, bne_iff_ne, ne_eq, Bool.and_eq_true, Bool.and_true, Bool.true_and, Bool.or_true, Bool.false_or, Nat.reduceAdd, Nat.reduceEqDiff, Nat.reduceBEq, Nat.zero_add, Int.toNat_natCast, Nat.le_refl, Int.natCast_nonneg, not_false_eq_true, r_vLen_lst, List.length_map, lookT_here, lookT_next, Int.cast_ofNat_Int, lookO_here, lookO_next, uf60, uf60b79, uf60r80, uf60b81, uf60b82, uf60r83, uf60b84, uf60r85, uf60b86]
    refine ⟨by omega, by omega, by omega, ?_⟩
    rw [uf60l78]
    refine awl_loop (fun x : Nat × List Int => [(1, .k (.ptr 1 0)), (4, .k (.own 16)), (18, lst 3 (t.args.map encT)), (19, .int .i64 (t.args.length : Int)), (20, .int .i64 x.1)])
      (fun x => [(1, .var 41 [.c (.int .i64 t.op), .c (.int .i64 t.n), .c (lstC 3 (t.args.map encT))]), (16, .arr 3 1 (some false) (ints x.2 ++ List.replicate (t.args.length - x.1) [.int .i64 0]))])
      (fun x => x.1 ≤ t.args.length ∧ x.2.length = x.1 ∧ chkA (t.args.drop x.1) x.2 = chkA t.args []) (fun x => t.args.length - x.1) (0, []) rfl rfl ?_ ?_
    · exact ⟨Nat.zero_le _, rfl, rfl⟩
    rintro ⟨i, ty⟩ ⟨hi, hty, hj⟩
    simp only [] at hi hty hj
    by_cases hlt : i < t.args.length
    · have c1 : (i : Int) < t.args.length := by omega
      have c4 : IntKind.i64.wrap ((i : Int) + 1) = (i : Int) + 1 := wrap_in (by omega) (by omega)
      simp only [map_at hlt, encT_len, c1, q_wpLs_eq_1, q_wpLs_eq_2, q_wpL_eq_1, q_exL_eq_1, q_exL_eq_4, q_exL_eq_8, q_exL_eq_9, q_exL_eq_11, q_exL_eq_23, q_exL_eq_28, q_look_eq_1, q_insT_eq_1, q_insO_eq_1, q_awl_eq_1, q_awl_eq_2, q_awl_eq_5, q_awl_eq_6, q_awl_eq_7, q_AE_thenL_eq_1, q_putK_eq_1, q_vBin_eq_1, q_resV_eq_1, q_binV_eq_1, q_binInt_eq_3, q_cutInt_eq_8, q_partV_eq_1, q_loadO_eq_1, q_isV_eq_1, q_vLoad_eq_1, q_vLoad_eq_2, q_V_cells_eq_2, q_splice_eq_1, q_stVarK_eq_1, q_storeK_eq_1, q_freeB_eq_1, q_freeT_eq_1, q_freeT_eq_2, q_freeO_eq_1, q_freeO_eq_2, q_V_noRef_eq_1, q_V_noRef_eq_2, q_K_noRef_eq_1, q_K_noRef_eq_2, q_K_noRef_eq_3, q_K_noRef_eq_5, q_O_noRef_eq_1, q_O_noRef_eq_2, q_List_map_cons, q_List_map_nil, q_List_take_zero, q_List_drop_succ_cons, q_List_drop_zero, q_List_nil_append, q_List_length_cons, q_List_length_nil, q_List_all_cons, q_List_all_nil, true_and, if_true, and_self, bne_iff_ne, ne_eq, Bool.and_eq_true, Bool.and_true, Bool.true_and, Bool.or_true, Bool.false_or, List.append_nil, Nat.reduceAdd, Nat.reduceEqDiff, Nat.reduceBEq, Nat.zero_add, Int.toNat_natCast, Nat.le_refl, Int.natCast_nonneg, q_learn_eq_1, not_false_eq_true, q_condK_eq_1, q_condB_eq_1, decide_true, r_vIaddr_lst, List.length_map, r_ofRow_take, encT_len, lookT_here, lookT_next, lookO_here, uf60r60, uf60r68, uf60b69, uf60r70, uf60b71, uf60b72, uf60b73, uf60b74, uf60b75, uf60r76, uf60b77]
      refine call_s (ih t.args[i] (hN.2 _ (List.getElem_mem hlt))) ?_
      simp only [c4, pairV, q_wpLs_eq_1, q_wpLs_eq_2, q_wpL_eq_1, q_exL_eq_1, q_exL_eq_9, q_exL_eq_11, q_exL_eq_23, q_exL_eq_27, q_look_eq_1, q_look_eq_2, q_insT_eq_1, q_insO_eq_1, q_awl_eq_1, q_awl_eq_2, q_awl_eq_5, q_awl_eq_6, q_awl_eq_10, q_AE_thenL_eq_1, q_AE_thenL_eq_3, q_AE_inBlockL_eq_1, q_AE_inBlockL_eq_3, q_putK_eq_1, q_vBin_eq_1, q_resV_eq_1, q_binV_eq_1, q_binInt_eq_3, q_cutInt_eq_1, q_cutInt_eq_7, q_vExtr_eq_1, q_vIaddr_eq_2, q_idxO_eq_1, q_splice_eq_1, q_vRow_eq_1, q_stArrK_eq_1, q_storeK_eq_2, q_mapT_eq_1, q_mapT_eq_2, q_mapO_eq_1, q_mapO_eq_2, q_endK_eq_2, q_endL_eq_1, q_endV_eq_1, q_resL_eq_1, q_resL_eq_2, q_resX_eq_1, q_one_eq_2, q_V_nrm_eq_1, q_V_nrm_eq_2, q_V_nrm_eq_4, q_K_nrm_eq_1, q_K_nrm_eq_2, q_K_nrm_eq_3, q_V_nrmL_eq_1, q_V_nrmL_eq_2, q_O_nrm_eq_1, q_O_nrm_eq_2, q_V_owns_eq_1, q_V_owns_eq_3, q_K_owns_eq_2, q_V_ownsL_eq_1, q_V_ownsL_eq_2, q_V_toNew_eq_1, q_V_toNew_eq_4, q_K_toNew_eq_1, q_V_toNewL_eq_1, q_V_toNewL_eq_2, q_C_norm_eq_1, q_C_norm_eq_4, q_C_norm_eq_5, q_C_normRows_eq_1, q_List_map_cons, q_List_map_nil, q_List_take_zero, q_List_nil_append, q_List_cons_append, q_List_length_cons, q_List_length_nil, q_List_getElemQ_cons_zero, q_List_getElemQ_cons_succ, q_List_isEmpty_nil, true_and, and_true, if_true, and_self, List.append_nil, List.nodup_nil, Nat.reduceBEq, Nat.zero_add, Int.toNat_natCast, Nat.le_refl, Int.natCast_nonneg, q_learn_eq_1, q_condK_eq_1, condB_bne, norm_lst, normRows_T, encT_norm, lookT_here, lookT_next, lookO_here, lookO_next, r_map_nrm, uf60r61, uf60r62, uf60b63, uf60b64, uf60r65, uf60b66, uf60b67]
      refine ⟨fun h6 => ?_, fun h6 => ⟨?_, ?_⟩⟩
      · rw [chkA_drop hlt, if_pos h6] at hj
        rw [chk_eq t, ← hj]
        simp [h6]
      · simp [hty]; omega
      · refine Next.intro (i + 1, ty ++ [(chk t.args[i]).1]) rfl ?_ ⟨by simp only []; omega, by simp [hty], ?_⟩ (by simp only []; omega)
        · rw [set_at hty hlt]; rfl
        · rw [chkA_drop hlt, if_neg (by simp [h6])] at hj
          exact hj
    · have c1 : ¬ (i : Int) < t.args.length := by omega
      have hz : t.args.length - i = 0 := by omega
      simp only [c1, hz, List.replicate_zero, q_wpLs_eq_1, q_wpLs_eq_2, q_wpL_eq_1, q_putDL_eq_1, q_AOp_dst_eq_8, q_AOp_dst_eq_10, q_AOp_dst_eq_20, q_exL_eq_1, q_exL_eq_3, q_exL_eq_8, q_exL_eq_11, q_exL_eq_21, q_exL_eq_28, q_look_eq_1, q_look_eq_2, q_insT_eq_1, q_awl_eq_1, q_awl_eq_2, q_awl_eq_5, q_awl_eq_6, q_awl_eq_7, q_awl_eq_9, q_awl_eq_10, q_AE_thenL_eq_1, q_AE_thenL_eq_2, q_AE_thenL_eq_3, q_AE_inBlockL_eq_1, q_AE_inBlockL_eq_2, q_AE_inBlockL_eq_3, q_putK_eq_1, q_vBin_eq_1, q_resV_eq_1, q_binV_eq_1, q_binInt_eq_3, q_cutInt_eq_6, q_cutInt_eq_8, q_cutInt_eq_10, q_vFaddr_eq_1, q_loadO_eq_1, q_isV_eq_1, q_vLoad_eq_1, q_vPick_eq_1, q_vPick_eq_2, q_ofRow_eq_1, q_ofRow_eq_2, q_pureRow_eq_1, q_pureRow_eq_2, q_isVarO_eq_1, q_mapT_eq_1, q_mapT_eq_2, q_mapO_eq_1, q_mapO_eq_2, q_endK_eq_2, q_endL_eq_1, q_endV_eq_1, q_resL_eq_1, q_resL_eq_2, q_resX_eq_1, q_one_eq_2, q_V_nrm_eq_1, q_V_nrm_eq_5, q_K_nrm_eq_1, q_K_nrm_eq_3, q_O_nrm_eq_1, q_O_nrm_eq_2, q_V_owns_eq_1, q_V_owns_eq_3, q_K_owns_eq_2, q_V_ownsL_eq_1, q_V_ownsL_eq_2, q_V_toNew_eq_1, q_V_toNew_eq_4, q_K_toNew_eq_1, q_V_toNewL_eq_1, q_V_toNewL_eq_2, q_C_norm_eq_4, q_C_norm_eq_5, q_Bool_not_false, q_Option_map_some, q_List_map_cons, q_List_map_nil, q_List_take_succ_cons, q_List_take_zero, q_List_drop_zero, q_List_length_cons, q_List_length_nil, true_and, if_true, if_false, Bool.false_eq_true, and_self, List.append_nil, List.nodup_nil, Nat.reduceAdd, Nat.reduceLeDiff, Nat.reduceBEq, Nat.zero_add, Nat.add_zero, Nat.le_refl, q_learn_eq_1, q_guardP_eq_2, q_condK_eq_1, q_condB_eq_1, q_condB_eq_2, q_exK_eq_1, condB_decide, condB_beq, decide_false, norm_lst, normRows_T, normRows_ints, lookT_here, lookT_next, lookO_here, uf60r46, uf60b47, uf60r48, uf60b49, uf60r50, uf60b51, uf60b52, uf60r53, uf60b54, uf60b55, uf60r56, uf60b57, uf60b58, uf60b59, uf60b74, uf60b75, uf60r76, uf60b77]
      rw [List.drop_eq_nil_of_le (by omega), chkA] at hj
      have e : chk t = node t ty := by rw [chk_eq t, ← hj]; simp
      rw [e]
      clear ih hj e
      repeat' (first | with_reducible refine And.intro ?_ ?_ | with_reducible intro _)
      any_goals (refine call_s (s71 t) ?_; simp only [pairV, q_wpLs_eq_1, q_wpLs_eq_2, q_wpL_eq_1, q_exL_eq_1, q_exL_eq_27, q_look_eq_1, q_insT_eq_1, q_awl_eq_10, q_AE_thenL_eq_3, q_AE_inBlockL_eq_3, q_putK_eq_1, q_vExtr_eq_1, q_mapT_eq_1, q_mapT_eq_2, q_mapO_eq_1, q_mapO_eq_2, q_endK_eq_2, q_endL_eq_1, q_endV_eq_1, q_resL_eq_1, q_resL_eq_2, q_resX_eq_1, q_one_eq_2, q_V_nrm_eq_1, q_V_nrm_eq_2, q_V_nrm_eq_4, q_V_nrm_eq_5, q_K_nrm_eq_1, q_K_nrm_eq_3, q_V_nrmL_eq_1, q_V_nrmL_eq_2, q_O_nrm_eq_1, q_O_nrm_eq_2, q_V_owns_eq_1, q_V_owns_eq_3, q_K_owns_eq_2, q_V_ownsL_eq_1, q_V_ownsL_eq_2, q_V_toNew_eq_1, q_V_toNew_eq_4, q_K_toNew_eq_1, q_V_toNewL_eq_1, q_V_toNewL_eq_2, q_C_norm_eq_4, q_C_norm_eq_5, q_C_normRow_eq_1, q_C_normRow_eq_2, q_List_map_cons, q_List_map_nil, q_List_getElemQ_cons_zero, q_List_getElemQ_cons_succ, true_and, and_self, List.append_nil, List.nodup_nil, Nat.reduceBEq, norm_lst, normRows_T, normRows_ints, lookT_here, lookT_next])
      all_goals try (simp_all [node, pairV]; done)
      refine call_r (s72 t.op) ?_
      simp only [shapeV, q_wpLs_eq_1, q_wpLs_eq_2, q_wpL_eq_1, q_putDL_eq_1, q_AOp_dst_eq_8, q_AOp_dst_eq_10, q_AOp_dst_eq_20, q_exL_eq_1, q_exL_eq_3, q_exL_eq_4, q_exL_eq_8, q_exL_eq_9, q_exL_eq_11, q_exL_eq_21, q_exL_eq_30, q_look_eq_1, q_look_eq_2, q_lookT_eq_1, q_insT_eq_1, q_insO_eq_1, q_awl_eq_1, q_awl_eq_2, q_awl_eq_5, q_awl_eq_6, q_awl_eq_7, q_awl_eq_10, q_AE_thenL_eq_1, q_AE_thenL_eq_3, q_putK_eq_1, q_vBin_eq_1, q_resV_eq_1, q_binV_eq_1, q_binInt_eq_3, q_cutInt_eq_7, q_vLen_eq_2, q_lenO_eq_1, q_vFaddr_eq_1, q_loadO_eq_1, q_isV_eq_1, q_vLoad_eq_1, q_vPick_eq_1, q_vPick_eq_2, q_ofRow_eq_1, q_pureRow_eq_1, q_pureRow_eq_2, q_pureRow_eq_3, q_V_cells_eq_3, q_splice_eq_1, q_isVarO_eq_1, q_stVarK_eq_1, q_storeK_eq_1, q_mapT_eq_1, q_mapT_eq_2, q_mapO_eq_1, q_mapO_eq_2, q_freeB_eq_1, q_freeT_eq_1, q_freeT_eq_2, q_freeO_eq_1, q_freeO_eq_2, q_V_noRef_eq_1, q_V_noRef_eq_3, q_V_noRef_eq_6, q_K_noRef_eq_1, q_K_noRef_eq_2, q_K_noRef_eq_3, q_O_noRef_eq_1, q_O_noRef_eq_2, q_endK_eq_2, q_endL_eq_1, q_endV_eq_1, q_resL_eq_1, q_resL_eq_2, q_resX_eq_1, q_one_eq_2, q_V_nrm_eq_1, q_V_nrm_eq_3, q_V_nrm_eq_5, q_K_nrm_eq_1, q_K_nrm_eq_3, q_O_nrm_eq_1, q_O_nrm_eq_2, q_V_owns_eq_1, q_V_owns_eq_3, q_K_owns_eq_2, q_V_ownsL_eq_1, q_V_ownsL_eq_2, q_V_toNew_eq_1, q_V_toNew_eq_4, q_K_toNew_eq_1, q_V_toNewL_eq_1, q_V_toNewL_eq_2, q_C_norm_eq_1, q_C_norm_eq_4, q_C_norm_eq_5, q_C_normRows_eq_1, q_regN_eq_2, q_V_reg_eq_2, q_K_regs_eq_1, q_K_regs_eq_2, q_K_regs_eq_3, q_freesL_eq_1, q_freesL_eq_2, q_addsL_eq_1, q_addsL_eq_2, q_regK_eq_1, q_retK_eq_2, q_Bool_not_false, q_Option_map_some, q_List_map_cons, q_List_map_nil, q_List_take_succ_cons, q_List_take_zero, q_List_drop_succ_cons, q_List_drop_zero, q_List_nil_append, q_List_length_cons, q_List_length_nil, q_List_all_cons, q_List_all_nil, q_List_isEmpty_nil, true_and, if_true, if_false, Bool.false_eq_true, or_true, and_self, bne_iff_ne, ne_eq, Bool.and_eq_true, Bool.and_true, Bool.true_and, Bool.or_true, Bool.false_or, Int.reduceNeg, List.append_nil, List.nodup_nil, Nat.reduceAdd, Nat.reduceMul, Nat.reduceEqDiff, Nat.reduceLeDiff, Nat.reduceBEq, Nat.zero_add, Nat.add_zero, Nat.le_refl, q_learn_eq_1, not_false_eq_true, q_guardP_eq_2, q_condK_eq_1, q_condB_eq_1, q_condB_eq_2, q_exK_eq_1, condB_bne, norm_lst, normRows_T, normRows_ints, ints_len, lookT_here, lookT_next, lookO_here, lookO_next, uf60b34, uf60r35, uf60b36, uf60b37, uf60r38, uf60b39, uf60r40, uf60b41, uf60b42, uf60r43, uf60b44, uf60b45]
      refine ⟨fun h1 => ?_, fun h1 => ⟨fun h2 => ?_, fun h2 => ?_⟩⟩
      · have h1' : ty.length ≠ (shapeArgs t.op).length := by omega
        have a1 : ¬ (t.op < 0 ∨ t.op > 13) := by omega
        have a2 : ¬ (t.op = 0 ∨ t.op = 1 ∨ t.op = 2) := by omega
        simp only [node, pairV, if_neg a1, if_neg a2, if_pos (Or.inl h1' : ty.length ≠ (shapeArgs t.op).length ∨ t.n ≠ 0)]
      · have a1 : ¬ (t.op < 0 ∨ t.op > 13) := by omega
        have a2 : ¬ (t.op = 0 ∨ t.op = 1 ∨ t.op = 2) := by omega
        simp only [node, pairV, if_neg a1, if_neg a2, if_pos (Or.inr h2 : ty.length ≠ (shapeArgs t.op).length ∨ t.n ≠ 0)]
      · have hl : ty.length = (shapeArgs t.op).length := by omega
        have hs3 := shape_small t.op
        have hnode : node t ty = match fit (shapeArgs t.op) ty (-1) with
            | none => (0, 11)
            | some c => if shapeRes t.op = -1 then (c, 0) else (shapeRes t.op, 0) := by
          have a1 : ¬ (t.op < 0 ∨ t.op > 13) := by omega
          have a2 : ¬ (t.op = 0 ∨ t.op = 1 ∨ t.op = 2) := by omega
          simp only [node, if_neg a1, if_neg a2, hl, h2, ne_eq, not_true_eq_false, or_self, if_false]
          all_goals rfl
        rw [uf60l33]
        refine awl_loop (fun x : Nat × Int => [(4, .k (.own 16)), (9, .k (.ptr 9 0)), (10, .int .i64 x.2), (80, .k (.own 68000)), (81, .int .i64 ((shapeArgs t.op).length : Int)), (82, .int .i64 x.1)])
          (fun _ => [(9, .var 92 [.own 68000, .c (.int .i64 (shapeRes t.op))]), (16, .arr 3 1 (some false) (ints ty)), (68000, .arr 3 1 none (ints (shapeArgs t.op)))])
          (fun x => x.1 ≤ (shapeArgs t.op).length ∧ fit ((shapeArgs t.op).drop x.1) (ty.drop x.1) x.2 = fit (shapeArgs t.op) ty (-1)) (fun x => (shapeArgs t.op).length - x.1) (0, -1) rfl rfl ⟨Nat.zero_le _, rfl⟩ ?_
        rintro ⟨j, c⟩ ⟨hj1, hj2⟩
        simp only [] at hj1 hj2
        by_cases hlj : j < (shapeArgs t.op).length
        · have d1 : (j : Int) < (shapeArgs t.op).length := by omega
          have hlj2 : j < ty.length := by omega
          have d2 : (j : Int) < ty.length := by omega
          have d4 : IntKind.i64.wrap ((j : Int) + 1) = (j : Int) + 1 := wrap_in (by omega) (by omega)
          rw [fit_drop hlj hlj2] at hj2
          have hfail : ty[j] ≠ (if (shapeArgs t.op)[j] = -1 then (if (shapeArgs t.op)[j] = -1 ∧ c = -1 then ty[j] else c) else (shapeArgs t.op)[j]) → pairV (node t ty) = pairV (0, 11) := by
            intro hne
            rw [if_pos hne] at hj2
            rw [hnode, ← hj2]
          have hgo : ∀ c', c' = (if (shapeArgs t.op)[j] = -1 ∧ c = -1 then ty[j] else c) → ¬ (ty[j] ≠ (if (shapeArgs t.op)[j] = -1 then (if (shapeArgs t.op)[j] = -1 ∧ c = -1 then ty[j] else c) else (shapeArgs t.op)[j])) → fit ((shapeArgs t.op).drop (j + 1)) (ty.drop (j + 1)) c' = fit (shapeArgs t.op) ty (-1) := by
            rintro c' rfl hne
            rw [if_neg hne] at hj2; exact hj2
          clear hj2 hnode
          by_cases hw : (shapeArgs t.op)[j] = -1 <;> by_cases hc : c = -1
          all_goals simp only [hw, hc, true_and, false_and, and_true, and_false, if_true, if_false, not_true_eq_false, not_false_eq_true, ne_eq] at hfail hgo
          · simp only [d1, d2, d4, hw, hc, ints_at hlj, ints_at hlj2, q_wpLs_eq_1, q_wpLs_eq_2, q_wpL_eq_1, q_AOp_dst_eq_1, q_AOp_dst_eq_10, q_exL_eq_1, q_exL_eq_3, q_exL_eq_8, q_exL_eq_11, q_exL_eq_23, q_look_eq_1, q_look_eq_2, q_insT_eq_1, q_awl_eq_1, q_awl_eq_2, q_awl_eq_5, q_awl_eq_6, q_awl_eq_7, q_awl_eq_10, q_AE_thenL_eq_1, q_AE_thenL_eq_3, q_AE_inBlockL_eq_1, q_AE_inBlockL_eq_3, q_putK_eq_1, q_vBin_eq_1, q_resV_eq_1, q_binV_eq_1, q_binInt_eq_3, q_cutInt_eq_1, q_cutInt_eq_6, q_cutInt_eq_7, q_cutInt_eq_8, q_partV_eq_2, q_loadO_eq_2, q_isA_eq_1, q_vLoad_eq_3, q_vIaddr_eq_2, q_idxO_eq_1, q_vPick_eq_1, q_mapT_eq_1, q_mapT_eq_2, q_mapO_eq_1, q_mapO_eq_2, q_endK_eq_2, q_endL_eq_1, q_endV_eq_1, q_resL_eq_1, q_resL_eq_2, q_resX_eq_1, q_one_eq_2, q_V_nrm_eq_1, q_K_nrm_eq_1, q_K_nrm_eq_3, q_O_nrm_eq_1, q_O_nrm_eq_2, q_V_owns_eq_1, q_V_owns_eq_3, q_K_owns_eq_2, q_V_ownsL_eq_1, q_V_ownsL_eq_2, q_V_toNew_eq_1, q_V_toNew_eq_4, q_K_toNew_eq_1, q_V_toNewL_eq_1, q_V_toNewL_eq_2, q_C_norm_eq_4, q_C_norm_eq_5, q_Bool_not_true, q_List_map_cons, q_List_map_nil, q_List_getD_cons_zero, true_and, if_true, false_implies, forall_const, and_self, Int.reduceNeg, BEq.rfl, List.append_nil, List.nodup_nil, Nat.reduceBEq, Nat.zero_add, Int.toNat_natCast, Nat.le_refl, Int.natCast_nonneg, q_learn_eq_1, not_true_eq_false, q_guardP_eq_1, q_condK_eq_1, q_condB_eq_1, q_exK_eq_1, condB_bne, decide_true, normRows_ints, ints_len, lookT_here, lookT_next, lookO_here, lookO_next, uf60r9, uf60r10, uf60b11, uf60b12, uf60r13, uf60b14, uf60r15, uf60b16, uf60r17, uf60b18, uf60b19, uf60r20, uf60b21, uf60r22, uf60b23, uf60b24, uf60r25, uf60b26, uf60b27, uf60b28, uf60b29, uf60b30, uf60r31, uf60b32]
            exact Next.intro (j + 1, ty[j]) rfl rfl ⟨by simp only []; omega, hgo _ rfl (by simp)⟩ (by simp only []; omega)
          · simp only [d1, d2, d4, hw, hc, ints_at hlj, ints_at hlj2, q_wpLs_eq_1, q_wpLs_eq_2, q_wpL_eq_1, q_AOp_dst_eq_1, q_AOp_dst_eq_10, q_exL_eq_1, q_exL_eq_3, q_exL_eq_8, q_exL_eq_11, q_exL_eq_23, q_look_eq_1, q_look_eq_2, q_insT_eq_1, q_awl_eq_1, q_awl_eq_2, q_awl_eq_5, q_awl_eq_6, q_awl_eq_7, q_awl_eq_10, q_AE_thenL_eq_1, q_AE_thenL_eq_3, q_AE_inBlockL_eq_1, q_AE_inBlockL_eq_3, q_putK_eq_1, q_vBin_eq_1, q_resV_eq_1, q_binV_eq_1, q_binInt_eq_3, q_cutInt_eq_1, q_cutInt_eq_6, q_cutInt_eq_7, q_cutInt_eq_8, q_partV_eq_2, q_loadO_eq_2, q_isA_eq_1, q_vLoad_eq_3, q_vIaddr_eq_2, q_idxO_eq_1, q_vPick_eq_1, q_mapT_eq_1, q_mapT_eq_2, q_mapO_eq_1, q_mapO_eq_2, q_endK_eq_2, q_endL_eq_1, q_endV_eq_1, q_resL_eq_1, q_resL_eq_2, q_resX_eq_1, q_one_eq_2, q_V_nrm_eq_1, q_K_nrm_eq_1, q_K_nrm_eq_3, q_O_nrm_eq_1, q_O_nrm_eq_2, q_V_owns_eq_1, q_V_owns_eq_3, q_K_owns_eq_2, q_V_ownsL_eq_1, q_V_ownsL_eq_2, q_V_toNew_eq_1, q_V_toNew_eq_4, q_K_toNew_eq_1, q_V_toNewL_eq_1, q_V_toNewL_eq_2, q_C_norm_eq_4, q_C_norm_eq_5, q_Bool_not_true, q_List_map_cons, q_List_map_nil, q_List_getD_cons_zero, true_and, if_true, false_implies, forall_const, and_self, Int.reduceNeg, BEq.rfl, List.append_nil, List.nodup_nil, Nat.reduceBEq, Nat.zero_add, Int.toNat_natCast, Nat.le_refl, Int.natCast_nonneg, q_learn_eq_1, not_true_eq_false, not_false_eq_true, q_guardP_eq_1, q_condK_eq_1, q_condB_eq_1, q_exK_eq_1, condB_beq, condB_bne, decide_true, normRows_ints, ints_len, lookT_here, lookT_next, lookO_here, lookO_next, uf60r9, uf60r10, uf60b11, uf60b12, uf60r13, uf60b14, uf60r15, uf60b16, uf60r17, uf60b18, uf60b19, uf60r20, uf60b21, uf60r22, uf60b23, uf60b24, uf60r25, uf60b26, uf60b27, uf60b28, uf60b29, uf60b30, uf60r31, uf60b32]
            refine ⟨fun h => ?_, fun h => ?_⟩
            · rw [hfail h]; rfl
            · exact Next.intro (j + 1, c) rfl rfl ⟨by simp only []; omega, hgo _ rfl (by simp [h])⟩ (by simp only []; omega)
          · simp only [d1, d2, d4, hw, hc, ints_at hlj, ints_at hlj2, q_wpLs_eq_1, q_wpLs_eq_2, q_wpL_eq_1, q_putDL_eq_1, q_AOp_dst_eq_1, q_AOp_dst_eq_10, q_exL_eq_1, q_exL_eq_3, q_exL_eq_8, q_exL_eq_11, q_exL_eq_23, q_look_eq_1, q_look_eq_2, q_insT_eq_1, q_awl_eq_1, q_awl_eq_2, q_awl_eq_5, q_awl_eq_6, q_awl_eq_7, q_awl_eq_10, q_AE_thenL_eq_1, q_AE_thenL_eq_3, q_AE_inBlockL_eq_1, q_AE_inBlockL_eq_3, q_putK_eq_1, q_vBin_eq_1, q_resV_eq_1, q_binV_eq_1, q_binInt_eq_3, q_cutInt_eq_1, q_cutInt_eq_6, q_cutInt_eq_7, q_cutInt_eq_8, q_partV_eq_2, q_loadO_eq_2, q_isA_eq_1, q_vLoad_eq_3, q_vIaddr_eq_2, q_idxO_eq_1, q_vPick_eq_1, q_vPick_eq_3, q_mapT_eq_1, q_mapT_eq_2, q_mapO_eq_1, q_mapO_eq_2, q_endK_eq_2, q_endL_eq_1, q_endV_eq_1, q_resL_eq_1, q_resL_eq_2, q_resX_eq_1, q_one_eq_2, q_V_nrm_eq_1, q_V_nrm_eq_5, q_K_nrm_eq_1, q_K_nrm_eq_3, q_O_nrm_eq_1, q_O_nrm_eq_2, q_V_owns_eq_1, q_V_owns_eq_3, q_K_owns_eq_2, q_V_ownsL_eq_1, q_V_ownsL_eq_2, q_V_toNew_eq_1, q_V_toNew_eq_4, q_K_toNew_eq_1, q_V_toNewL_eq_1, q_V_toNewL_eq_2, q_C_norm_eq_4, q_C_norm_eq_5, q_Bool_not_true, q_List_map_cons, q_List_map_nil, q_List_getD_cons_zero, true_and, if_true, false_implies, forall_const, and_self, Int.reduceNeg, BEq.rfl, List.append_nil, List.nodup_nil, Nat.reduceBEq, Nat.zero_add, Int.toNat_natCast, Nat.le_refl, Int.natCast_nonneg, q_learn_eq_1, not_true_eq_false, not_false_eq_true, q_guardP_eq_1, q_condK_eq_1, q_condB_eq_1, q_condB_eq_2, q_exK_eq_1, condB_beq, condB_bne, decide_true, normRows_ints, ints_len, lookT_here, lookT_next, lookO_here, lookO_next, uf60r9, uf60r10, uf60b11, uf60b12, uf60r13, uf60b14, uf60r15, uf60b16, uf60r17, uf60b18, uf60b19, uf60r20, uf60b21, uf60r22, uf60b23, uf60b24, uf60r25, uf60b26, uf60b27, uf60b28, uf60b29, uf60b30, uf60r31, uf60b32]
            refine ⟨fun h => ?_, fun h => ?_⟩
            · rw [hfail h]; rfl
            · exact Next.intro (j + 1, -1) rfl rfl ⟨by simp only []; omega, hgo _ rfl (by simp [h])⟩ (by simp only []; omega)
          · simp only [d1, d2, d4, hw, hc, ints_at hlj, ints_at hlj2, q_wpLs_eq_1, q_wpLs_eq_2, q_wpL_eq_1, q_putDL_eq_1, q_AOp_dst_eq_1, q_AOp_dst_eq_10, q_exL_eq_1, q_exL_eq_3, q_exL_eq_8, q_exL_eq_11, q_exL_eq_23, q_look_eq_1, q_look_eq_2, q_insT_eq_1, q_awl_eq_1, q_awl_eq_2, q_awl_eq_5, q_awl_eq_6, q_awl_eq_7, q_awl_eq_10, q_AE_thenL_eq_1, q_AE_thenL_eq_3, q_AE_inBlockL_eq_1, q_AE_inBlockL_eq_3, q_putK_eq_1, q_vBin_eq_1, q_resV_eq_1, q_binV_eq_1, q_binInt_eq_3, q_cutInt_eq_1, q_cutInt_eq_6, q_cutInt_eq_7, q_cutInt_eq_8, q_partV_eq_2, q_loadO_eq_2, q_isA_eq_1, q_vLoad_eq_3, q_vIaddr_eq_2, q_idxO_eq_1, q_vPick_eq_1, q_vPick_eq_3, q_mapT_eq_1, q_mapT_eq_2, q_mapO_eq_1, q_mapO_eq_2, q_endK_eq_2, q_endL_eq_1, q_endV_eq_1, q_resL_eq_1, q_resL_eq_2, q_resX_eq_1, q_one_eq_2, q_V_nrm_eq_1, q_V_nrm_eq_5, q_K_nrm_eq_1, q_K_nrm_eq_3, q_O_nrm_eq_1, q_O_nrm_eq_2, q_V_owns_eq_1, q_V_owns_eq_3, q_K_owns_eq_2, q_V_ownsL_eq_1, q_V_ownsL_eq_2, q_V_toNew_eq_1, q_V_toNew_eq_4, q_K_toNew_eq_1, q_V_toNewL_eq_1, q_V_toNewL_eq_2, q_C_norm_eq_4, q_C_norm_eq_5, q_Bool_not_true, q_List_map_cons, q_List_map_nil, q_List_getD_cons_zero, true_and, if_true, false_implies, forall_const, and_self, Int.reduceNeg, List.append_nil, List.nodup_nil, Nat.reduceBEq, Nat.zero_add, Int.toNat_natCast, Nat.le_refl, Int.natCast_nonneg, q_learn_eq_1, not_true_eq_false, not_false_eq_true, q_guardP_eq_1, q_condK_eq_1, q_condB_eq_1, q_condB_eq_2, q_exK_eq_1, condB_beq, condB_bne, decide_true, normRows_ints, ints_len, lookT_here, lookT_next, lookO_here, lookO_next, uf60r9, uf60r10, uf60b11, uf60b12, uf60r13, uf60b14, uf60r15, uf60b16, uf60r17, uf60b18, uf60b19, uf60r20, uf60b21, uf60r22, uf60b23, uf60b24, uf60r25, uf60b26, uf60b27, uf60b28, uf60b29, uf60b30, uf60r31, uf60b32]
            refine ⟨fun h => ?_, fun h => ?_⟩
            · rw [hfail h]; rfl
            · exact Next.intro (j + 1, c) rfl rfl ⟨by simp only []; omega, hgo _ rfl (by simp [h])⟩ (by simp only []; omega)
        · have d1 : ¬ (j : Int) < (shapeArgs t.op).length := by omega
          rw [fit_end _ _ _ (List.drop_eq_nil_of_le (by omega))] at hj2
          simp only [d1, q_wpLs_eq_1, q_wpLs_eq_2, q_wpL_eq_1, q_exL_eq_1, q_exL_eq_8, q_exL_eq_11, q_exL_eq_21, q_look_eq_1, q_look_eq_2, q_insT_eq_1, q_awl_eq_1, q_awl_eq_2, q_awl_eq_5, q_awl_eq_6, q_awl_eq_9, q_awl_eq_10, q_AE_thenL_eq_1, q_AE_thenL_eq_2, q_AE_thenL_eq_3, q_AE_inBlockL_eq_2, q_putK_eq_1, q_vBin_eq_1, q_resV_eq_1, q_binV_eq_1, q_binInt_eq_3, q_cutInt_eq_6, q_cutInt_eq_8, q_vFaddr_eq_1, q_loadO_eq_1, q_isV_eq_1, q_vLoad_eq_1, q_ofRow_eq_1, q_pureRow_eq_1, q_pureRow_eq_2, q_isVarO_eq_1, q_mapT_eq_1, q_mapT_eq_2, q_mapO_eq_1, q_mapO_eq_2, q_endK_eq_2, q_endL_eq_1, q_endV_eq_1, q_resL_eq_1, q_resL_eq_2, q_resX_eq_1, q_one_eq_2, q_V_nrm_eq_1, q_K_nrm_eq_1, q_K_nrm_eq_3, q_O_nrm_eq_1, q_O_nrm_eq_2, q_V_owns_eq_1, q_V_owns_eq_3, q_K_owns_eq_2, q_V_ownsL_eq_1, q_V_ownsL_eq_2, q_V_toNew_eq_1, q_V_toNew_eq_4, q_K_toNew_eq_1, q_V_toNewL_eq_1, q_V_toNewL_eq_2, q_C_norm_eq_4, q_C_norm_eq_5, q_Option_map_some, q_List_map_cons, q_List_map_nil, q_List_take_succ_cons, q_List_take_zero, q_List_drop_succ_cons, q_List_drop_zero, q_List_length_cons, q_List_length_nil, true_and, if_true, if_false, Bool.false_eq_true, and_self, Int.reduceNeg, List.append_nil, List.nodup_nil, Nat.reduceAdd, Nat.reduceBEq, Nat.zero_add, Nat.le_refl, q_learn_eq_1, q_condK_eq_1, q_condB_eq_2, condB_beq, decide_false, normRows_ints, lookT_here, lookT_next, lookO_here, uf60r1, uf60b2, uf60r3, uf60b4, uf60b5, uf60r6, uf60b7, uf60b8, uf60b29, uf60b30, uf60r31, uf60b32]
          rw [hnode, ← hj2]
          refine ⟨fun h => ?_, fun h => ?_⟩ <;> simp [pairV, h]
end Go.Abs


set_option maxRecDepth 100000
set_option maxHeartbeats 4000000
namespace Go.Abs
open Go.Proofs
theorem s30 (t : Term) : Spec Try.prog 30 [.agg (encT t)] (fun r => r = .bool (few t)) := by
  refine Spec.of_awl hf30 okf30 (by simp) ?_
  simp only [q_wpLs_eq_1, q_wpLs_eq_2, q_wpL_eq_1, q_exL_eq_1, q_exL_eq_5, q_exL_eq_8, q_exL_eq_28, q_look_eq_1, q_look_eq_2, q_insT_eq_1, q_insO_eq_1, q_awl_eq_2, q_awl_eq_5, q_AE_thenL_eq_1, q_initT_eq_1, q_initT_eq_2, q_putK_eq_1, q_loadO_eq_1, q_isV_eq_1, q_vLoad_eq_1, q_boxK_eq_1, q_freeB_eq_1, q_freeT_eq_1, q_freeT_eq_2, q_freeO_eq_1, q_V_noRef_eq_2, q_List_map_cons, q_List_map_nil, q_List_drop_zero, true_and, Bool.and_true, Bool.or_true, Nat.reduceBEq, Nat.zero_add, Nat.le_refl, List.length_map, r_ofRow_take, encT_len, lookT_here, lookT_next, lookO_here, uf30, uf30r1, uf30b2, uf30r3, uf30b4]
  refine call_s (s58 20 t 100 (by omega) (by omega) (by omega)) ?_
  simp only [q_wpLs_eq_1, q_wpLs_eq_2, q_wpL_eq_1, q_exL_eq_1, q_exL_eq_11, q_look_eq_1, q_look_eq_2, q_insT_eq_1, q_awl_eq_10, q_putK_eq_1, q_vBin_eq_1, q_resV_eq_1, q_binV_eq_1, q_binInt_eq_3, q_cutInt_eq_11, q_mapT_eq_1, q_mapT_eq_2, q_mapO_eq_1, q_mapO_eq_2, q_endK_eq_2, q_endL_eq_1, q_endV_eq_1, q_resL_eq_1, q_resL_eq_2, q_resX_eq_1, q_one_eq_1, q_V_nrm_eq_1, q_V_nrm_eq_2, q_K_nrm_eq_1, q_K_nrm_eq_3, q_O_nrm_eq_1, q_V_owns_eq_1, q_K_owns_eq_2, q_V_toNew_eq_1, q_K_toNew_eq_1, q_C_norm_eq_4, q_C_norm_eq_5, true_and, if_true, and_self, List.nodup_nil, encT_norm, lookT_here, Int.cast_ofNat_Int, r_map_nrm]
  rfl
theorem s31 (t : Term) : Spec Try.prog 31 [.agg (encT t)] (fun r => r = pairV (checkT t)) := by
  refine Spec.of_awl hf31 okf31 (by simp) ?_
  simp only [q_wpLs_eq_1, q_wpLs_eq_2, q_wpL_eq_1, q_exL_eq_1, q_exL_eq_5, q_exL_eq_8, q_exL_eq_28, q_look_eq_1, q_look_eq_2, q_insT_eq_1, q_insO_eq_1, q_awl_eq_2, q_awl_eq_5, q_AE_thenL_eq_1, q_initT_eq_1, q_initT_eq_2, q_putK_eq_1, q_loadO_eq_1, q_isV_eq_1, q_vLoad_eq_1, q_boxK_eq_1, q_freeB_eq_1, q_freeT_eq_1, q_freeT_eq_2, q_freeO_eq_1, q_V_noRef_eq_2, q_List_map_cons, q_List_map_nil, q_List_drop_zero, true_and, Bool.and_true, Bool.or_true, Nat.reduceBEq, Nat.zero_add, Nat.le_refl, List.length_map, r_ofRow_take, encT_len, lookT_here, lookT_next, lookO_here, uf31, uf31r6, uf31b7, uf31b8, uf31r9, uf31b10]
  refine call_s (s59 8 t (by omega)) ?_
  have hm := meas_check t
  simp only [q_wpLs_eq_1, q_wpLs_eq_2, q_wpL_eq_1, q_exL_eq_1, q_exL_eq_8, q_exL_eq_11, q_exL_eq_28, q_look_eq_1, q_look_eq_2, q_insT_eq_1, q_awl_eq_1, q_awl_eq_2, q_awl_eq_5, q_awl_eq_6, q_awl_eq_10, q_AE_thenL_eq_1, q_AE_thenL_eq_3, q_putK_eq_1, q_vBin_eq_1, q_resV_eq_1, q_binV_eq_1, q_binInt_eq_3, q_cutInt_eq_10, q_loadO_eq_1, q_isV_eq_1, q_vLoad_eq_1, q_mapT_eq_1, q_mapT_eq_2, q_mapO_eq_1, q_mapO_eq_2, q_endK_eq_2, q_endL_eq_1, q_endV_eq_1, q_resL_eq_1, q_resL_eq_2, q_resX_eq_1, q_one_eq_2, q_V_nrm_eq_1, q_V_nrm_eq_2, q_K_nrm_eq_1, q_K_nrm_eq_3, q_O_nrm_eq_1, q_V_owns_eq_1, q_V_owns_eq_3, q_K_owns_eq_2, q_V_ownsL_eq_1, q_V_ownsL_eq_2, q_V_toNew_eq_1, q_V_toNew_eq_4, q_K_toNew_eq_1, q_V_toNewL_eq_1, q_V_toNewL_eq_2, q_C_norm_eq_4, q_C_norm_eq_5, q_List_map_cons, q_List_map_nil, q_List_drop_zero, true_and, if_true, and_self, List.append_nil, List.nodup_nil, Nat.reduceBEq, Nat.zero_add, Nat.le_refl, q_learn_eq_1, q_condK_eq_1, condB_decide, encT_norm, List.length_map, r_ofRow_take, encT_len, lookT_here, lookT_next, lookO_here, r_map_nrm, uf31r1, uf31b2, uf31r3, uf31b4, uf31b5]
  refine ⟨fun h => ?_, fun h => ?_⟩
  · rw [checkT, if_pos (hm.1 h)]; rfl
  · have h0 : ¬ nodes t 60 8 < 0 := fun h' => h (hm.2 h')
    refine call_s (s60 8 t (narrow_of 8 t 60 (by omega) (by simp; omega))) ?_
    simp only [pairV, q_wpLs_eq_1, q_wpLs_eq_2, q_wpL_eq_1, q_exL_eq_1, q_exL_eq_27, q_look_eq_1, q_insT_eq_1, q_awl_eq_10, q_putK_eq_1, q_vExtr_eq_1, q_mapT_eq_1, q_mapT_eq_2, q_mapO_eq_1, q_mapO_eq_2, q_endK_eq_2, q_endL_eq_1, q_endV_eq_1, q_resL_eq_1, q_resL_eq_2, q_resX_eq_1, q_one_eq_2, q_V_nrm_eq_1, q_V_nrm_eq_2, q_V_nrm_eq_4, q_K_nrm_eq_1, q_K_nrm_eq_3, q_V_nrmL_eq_1, q_V_nrmL_eq_2, q_O_nrm_eq_1, q_V_owns_eq_1, q_V_owns_eq_3, q_K_owns_eq_2, q_V_ownsL_eq_1, q_V_ownsL_eq_2, q_V_toNew_eq_1, q_V_toNew_eq_4, q_K_toNew_eq_1, q_V_toNewL_eq_1, q_V_toNewL_eq_2, q_C_norm_eq_4, q_C_norm_eq_5, q_List_getElemQ_cons_zero, q_List_getElemQ_cons_succ, true_and, and_self, List.append_nil, List.nodup_nil, Nat.reduceBEq, encT_norm, lookT_here, lookT_next, r_map_nrm]
    rw [checkT, if_neg h0]
end Go.Abs


set_option maxRecDepth 100000
set_option maxHeartbeats 4000000
namespace Go.Abs
open Go.Proofs
end Go.Abs


namespace Go.Abs
def qtype (q : Int) : Int := if q = 6 ∨ q = 7 ∨ q = 10 ∨ q = 12 ∨ q = 13 ∨ q = 14 ∨ q = 15 ∨ q = 16 ∨ q = 20 ∨ q = 21 then 0 else 1
def typeQ (q : Int) : V := if q < 0 ∨ q ≥ 22 then .tup [.int .i64 0, .bool false] else .tup [.int .i64 (qtype q), .bool true]
def chs : List Choice → Int → Bool
  | [], _ => true
  | c :: l, last => if ¬ (last < c.ask ∧ c.ask < 22) ∨ c.by_ < 0 ∨ c.by_ ≥ 5 then false else chs l c.ask
def rls : List Rule → Int → Bool
  | [], _ => true
  | c :: l, last => if ¬ (last < c.ask ∧ c.ask < 22) then false else rls l c.ask
def tys : List Rule → Int
  | [] => 0
  | r :: l => if (checkT r.term).2 ≠ 0 then (checkT r.term).2 else if (checkT r.term).1 ≠ qtype r.ask then 11 else tys l
def checkO (o : Order) : Int := if chs o.choices (-1) = false then 1 else if rls o.rules (-1) = false then 1 else tys o.rules
def ordersO : List Order → Int → Int × Int
  | [], _ => (-1, 0)
  | o :: l, i => if checkO o ≠ 0 then (i, checkO o) else ordersO l (i + 1)
def fewR : List Rule → Bool
  | [] => true
  | r :: l => if few r.term = false then false else fewR l
def fewO (o : Order) : Bool := if o.choices.length > 60 ∨ o.rules.length > 60 then false else fewR o.rules
theorem chs_drop {l : List Choice} {i : Nat} (h : i < l.length) (last : Int) : chs (l.drop i) last = if ¬ (last < l[i].ask ∧ l[i].ask < 22) ∨ l[i].by_ < 0 ∨ l[i].by_ ≥ 5 then false else chs (l.drop (i + 1)) l[i].ask := by
  rw [List.drop_eq_getElem_cons h, chs]
theorem rls_drop {l : List Rule} {i : Nat} (h : i < l.length) (last : Int) : rls (l.drop i) last = if ¬ (last < l[i].ask ∧ l[i].ask < 22) then false else rls (l.drop (i + 1)) l[i].ask := by
  rw [List.drop_eq_getElem_cons h, rls]
theorem tys_drop {l : List Rule} {i : Nat} (h : i < l.length) : tys (l.drop i) = if (checkT l[i].term).2 ≠ 0 then (checkT l[i].term).2 else if (checkT l[i].term).1 ≠ qtype l[i].ask then 11 else tys (l.drop (i + 1)) := by
  rw [List.drop_eq_getElem_cons h, tys]
theorem ordersO_drop {l : List Order} {i : Nat} (h : i < l.length) (n : Int) : ordersO (l.drop i) n = if checkO l[i] ≠ 0 then (n, checkO l[i]) else ordersO (l.drop (i + 1)) (n + 1) := by
  rw [List.drop_eq_getElem_cons h, ordersO]
theorem fewR_drop {l : List Rule} {i : Nat} (h : i < l.length) : fewR (l.drop i) = if few l[i].term = false then false else fewR (l.drop (i + 1)) := by
  rw [List.drop_eq_getElem_cons h, fewR]
def rix : List Rule → Int → Int → Int
  | [], _, _ => -1
  | r :: l, q, i => if r.ask = q then i else rix l q (i + 1)
theorem rix_drop {l : List Rule} {i : Nat} (h : i < l.length) (q n : Int) : rix (l.drop i) q n = if l[i].ask = q then n else rix (l.drop (i + 1)) q (n + 1) := by
  rw [List.drop_eq_getElem_cons h, rix]
def hasR (l : List Rule) (q : Int) : Bool := l.any fun r => decide (r.ask = q)
theorem rix_neg : ∀ (l : List Rule) (q i : Int), 0 ≤ i → (rix l q i < 0 ↔ hasR l q = false) ∧ (0 ≤ rix l q i ↔ hasR l q = true)
  | [], q, i, h => by simp [rix, hasR]
  | r :: l, q, i, h => by
    have := rix_neg l q (i + 1) (by omega)
    simp only [rix, hasR, List.any_cons] at this ⊢
    split
    · rename_i hr; simp [hr]; omega
    · rename_i hr; simpa [hr] using this
def hasI (l : List Int) (v : Int) : Bool := l.any fun x => decide (x = v)
def ixP (p : Int → Bool) : List Int → Int → Int
  | [], _ => -1
  | x :: l, i => if p x = true then i else ixP p l (i + 1)
theorem ixP_drop {p : Int → Bool} {l : List Int} {i : Nat} (h : i < l.length) (n : Int) : ixP p (l.drop i) n = if p l[i] = true then n else ixP p (l.drop (i + 1)) (n + 1) := by
  rw [List.drop_eq_getElem_cons h, ixP]
theorem ixP_any (p : Int → Bool) : ∀ (l : List Int) (i : Int), 0 ≤ i → (0 ≤ ixP p l i ↔ l.any p = true)
  | [], i, h => by simp [ixP]
  | x :: l, i, h => by
    have := ixP_any p l (i + 1) (by omega)
    simp only [ixP, List.any_cons]
    split
    · rename_i hr; simp [hr]; omega
    · rename_i hr; simpa [hr] using this
def gapsO (o : Order) : List Int := (upto 22).filter fun q => !(hasR o.rules q)
end Go.Abs


set_option maxRecDepth 100000
namespace Go.Proofs
open Go.Shelf
def Try.laysSort_ren : Go.Shelf.Ren :=
  {
    f := fun x =>
      match x with
      | 189 => 49
      | 125 => 69
      | 257 => 68
      | 128 => 91
      | 129 => 92
      | 294 => 82
      | 295 => 83
      | 296 => 84
      | 297 => 85
      | 298 => 86
      | 299 => 87
      | 216 => 88
      | 300 => 89
      | 301 => 90
      | 328 => 100
      | 329 => 101
      | 330 => 102
      | 331 => 103
      | 332 => 104
      | 215 => 105
      | 343 => 107
      | n => n,
    t := fun x =>
      match x with
      | 28 => 36
      | 3 => 3
      | 46 => 89
      | 0 => 0
      | 51 => 110
      | 53 => 112
      | 4 => 4
      | 183 => 104
      | 182 => 103
      | 131 => 28
      | 5 => 5
      | 9 => 9
      | 218 => 117
      | 222 => 121
      | 228 => 123
      | 229 => 124
      | n => n,
    g := fun n => n }
theorem Try.laysSort : Lays.n189 Try.prog Try.laysSort_ren :=
  { mixed := Eq.refl true, f125 := Eq.trans Try.func69 (congrArg some (Eq.refl (Body.n125 Try.laysSort_ren))),
    f128 := Eq.trans Try.func91 (congrArg some (Eq.refl (Body.n128 Try.laysSort_ren))),
    f129 := Eq.trans Try.func92 (congrArg some (Eq.refl (Body.n129 Try.laysSort_ren))),
    f189 := Eq.trans Try.func49 (congrArg some (Eq.refl (Body.n189 Try.laysSort_ren))),
    f215 := Eq.trans Try.func105 (congrArg some (Eq.refl (Body.n215 Try.laysSort_ren))),
    f216 := Eq.trans Try.func88 (congrArg some (Eq.refl (Body.n216 Try.laysSort_ren))),
    f257 := Eq.trans Try.func68 (congrArg some (Eq.refl (Body.n257 Try.laysSort_ren))),
    f294 := Eq.trans Try.func82 (congrArg some (Eq.refl (Body.n294 Try.laysSort_ren))),
    f295 := Eq.trans Try.func83 (congrArg some (Eq.refl (Body.n295 Try.laysSort_ren))),
    f296 := Eq.trans Try.func84 (congrArg some (Eq.refl (Body.n296 Try.laysSort_ren))),
    f297 := Eq.trans Try.func85 (congrArg some (Eq.refl (Body.n297 Try.laysSort_ren))),
    f298 := Eq.trans Try.func86 (congrArg some (Eq.refl (Body.n298 Try.laysSort_ren))),
    f299 := Eq.trans Try.func87 (congrArg some (Eq.refl (Body.n299 Try.laysSort_ren))),
    f300 := Eq.trans Try.func89 (congrArg some (Eq.refl (Body.n300 Try.laysSort_ren))),
    f301 := Eq.trans Try.func90 (congrArg some (Eq.refl (Body.n301 Try.laysSort_ren))),
    f328 := Eq.trans Try.func100 (congrArg some (Eq.refl (Body.n328 Try.laysSort_ren))),
    f329 := Eq.trans Try.func101 (congrArg some (Eq.refl (Body.n329 Try.laysSort_ren))),
    f330 := Eq.trans Try.func102 (congrArg some (Eq.refl (Body.n330 Try.laysSort_ren))),
    f331 := Eq.trans Try.func103 (congrArg some (Eq.refl (Body.n331 Try.laysSort_ren))),
    f332 := Eq.trans Try.func104 (congrArg some (Eq.refl (Body.n332 Try.laysSort_ren))),
    f343 := Eq.trans Try.func107 (congrArg some (Eq.refl (Body.n343 Try.laysSort_ren))), t0 := Try.underlying0,
    a0 := Try.isAgg0, z0 := Try.sizeOf0, v0 := Try.zeroValue0, t3 := Try.underlying3, a3 := Try.isAgg3, z3 := Try.sizeOf3,
    v3 := Try.zeroValue3, t4 := Try.underlying4, a4 := Try.isAgg4, z4 := Try.sizeOf4, v4 := Try.zeroValue4,
    t5 := Try.underlying5, a5 := Try.isAgg5, z5 := Try.sizeOf5, v5 := Try.zeroValue5, t9 := Try.underlying9,
    a9 := Try.isAgg9, z9 := Try.sizeOf9, v9 := Try.zeroValue9, t28 := Try.underlying36, a28 := Try.isAgg36,
    z28 := Try.sizeOf36, v28 := Try.zeroValue36, t46 := Try.underlying89, a46 := Try.isAgg89, z46 := Try.sizeOf89,
    v46 := Try.zeroValue89, t51 := Try.underlying110, a51 := Try.isAgg110, z51 := Try.sizeOf110, v51 := Try.zeroValue110,
    t53 := Try.underlying112, a53 := Try.isAgg112, z53 := Try.sizeOf112, v53 := Try.zeroValue112,
    t131 := Try.underlying28, a131 := Try.isAgg28, z131 := Try.sizeOf28, v131 := Try.zeroValue28,
    t182 := Try.underlying103, a182 := Try.isAgg103, z182 := Try.sizeOf103, v182 := Try.zeroValue103,
    t183 := Try.underlying104, a183 := Try.isAgg104, z183 := Try.sizeOf104, v183 := Try.zeroValue104,
    t218 := Try.underlying117, a218 := Try.isAgg117, z218 := Try.sizeOf117, v218 := Try.zeroValue117,
    t222 := Try.underlying121, a222 := Try.isAgg121, z222 := Try.sizeOf121, v222 := Try.zeroValue121,
    t228 := Try.underlying123, a228 := Try.isAgg123, z228 := Try.sizeOf123, v228 := Try.zeroValue123,
    t229 := Try.underlying124, a229 := Try.isAgg124, z229 := Try.sizeOf124, v229 := Try.zeroValue124 }
def Try.laysCompact_ren : Go.Shelf.Ren :=
  {
    f := fun x =>
      match x with
      | 20 => 50
      | n => n,
    t := fun x =>
      match x with
      | 22 => 36
      | 3 => 3
      | 4 => 4
      | 0 => 0
      | n => n,
    g := fun n => n }
theorem Try.laysCompact : Lays2.n20 Try.prog Try.laysCompact_ren :=
  { mixed := Eq.refl true, f20 := Eq.trans Try.func50 (congrArg some (Eq.refl (Body2.n20 Try.laysCompact_ren))),
    t0 := Try.underlying0, a0 := Try.isAgg0, z0 := Try.sizeOf0, v0 := Try.zeroValue0, t3 := Try.underlying3,
    a3 := Try.isAgg3, z3 := Try.sizeOf3, v3 := Try.zeroValue3, t4 := Try.underlying4, a4 := Try.isAgg4, z4 := Try.sizeOf4,
    v4 := Try.zeroValue4, t22 := Try.underlying36, a22 := Try.isAgg36, z22 := Try.sizeOf36, v22 := Try.zeroValue36,
    i3 := Eq.refl (some (some (Go.Value.int Go.IntKind.i64 0), 1, 8)) }
end Go.Proofs
set_option maxRecDepth 100000
namespace Go.Abs
open Go.Proofs
theorem callable_at {P : Program} {f : FuncId} (h : (match P.funcs[f]? with | some fn => fn.body.isSome && !(fn.name == "runtime.NumGoroutine") | none => false) = true) : Callable P f := by
  cases hf : P.funcs[f]? with
  | none => rw [hf] at h; cases h
  | some fn =>
    rw [hf] at h
    simp only [Bool.and_eq_true, Bool.not_eq_true'] at h
    exact ⟨fn, hf, h.1, h.2⟩
theorem s49 {e : TypeId} {τ : Nat} {l : List Int} (hl : l.length < 4611686018427387904) : SpecS Try.prog 49 [.k (.own τ)] (oneI e τ l) [τ] (fun r o' => r = .tup [] ∧ o' = oneI e τ (sortI l)) :=
  sort_spec Try.laysSort (callable_at (by kernel_rfl)) hl
theorem s50 {e : TypeId} {τ : Nat} {l : List Int} : SpecS Try.prog 50 [.k (.own τ)] (oneI e τ l) [] (fun r o' => r = .k (.own τ) ∧ o' = oneI e τ (Lib.compact l)) :=
  compact_spec Try.laysCompact (callable_at (by kernel_rfl))
end Go.Abs

