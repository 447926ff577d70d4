/- A part of the proof; the last text states what is proved. -/
import Derived.Test.YtckobjgahmmkaaaP3
import Derived.Test.YtckobjgahmmkaaaProg
import Derived.IntWalk
set_option maxRecDepth 100000
namespace Go.Abs
open Go.Proofs
/-! ### function 3 -/
def f3r1 : List AI := [⟨none, (.mov 50 (.t 7))⟩, ⟨none, (.mov 51 (.t 50))⟩, ⟨(some (51, true)), (.mov 52 (.t 8))⟩, ⟨(some (51, true)), (.mov 53 (.t 10))⟩, ⟨(some (51, true)), (.bin 54 .eql (.t 52) (.t 53))⟩, ⟨none, (.pick 55 (.t 51) (.t 54) (.v (.k (.c (.bool false)))))⟩, ⟨none, (.mov 56 (.t 55))⟩, ⟨(some (56, true)), (.mov 57 (.t 9))⟩, ⟨(some (56, true)), (.mov 58 (.t 11))⟩, ⟨(some (56, true)), (.binB 59 false (.t 57) (.t 58))⟩, ⟨none, (.pick 60 (.t 56) (.t 59) (.v (.k (.c (.bool false)))))⟩, ⟨none, (.mov 61 (.t 60))⟩, ⟨(some (61, true)), (.load 62 4 true (.t 3))⟩, ⟨(some (61, true)), (.call (some 63) 20 [(.t 62)])⟩, ⟨(some (61, true)), (.load 64 4 true (.t 3))⟩, ⟨(some (61, true)), (.call (some 65) 21 [(.t 64)])⟩, ⟨(some (61, true)), (.bin 66 .eql (.t 63) (.t 65))⟩, ⟨none, (.pick 67 (.t 61) (.t 66) (.v (.k (.c (.bool false)))))⟩, ⟨none, (.mov 68 (.t 67))⟩, ⟨(some (68, true)), (.mov 69 (.t 12))⟩, ⟨(some (68, true)), (.mov 70 (.t 14))⟩, ⟨(some (68, true)), (.bin 71 .eql (.t 69) (.t 70))⟩, ⟨none, (.pick 72 (.t 68) (.t 71) (.v (.k (.c (.bool false)))))⟩, ⟨none, (.mov 73 (.t 72))⟩, ⟨(some (73, true)), (.mov 74 (.t 13))⟩, ⟨(some (73, true)), (.mov 75 (.t 15))⟩, ⟨(some (73, true)), (.bin 76 .eql (.t 74) (.t 75))⟩, ⟨none, (.pick 77 (.t 73) (.t 76) (.v (.k (.c (.bool false)))))⟩, ⟨none, (.mov 78 (.t 77))⟩, ⟨(some (78, true)), (.load 79 4 true (.t 3))⟩, ⟨(some (78, true)), (.call (some 80) 23 [(.t 79)])⟩, ⟨(some (78, true)), (.load 81 4 true (.t 3))⟩, ⟨(some (78, true)), (.call (some 82) 24 [(.t 81)])⟩, ⟨(some (78, true)), (.call (some 83) 22 [(.t 80), (.t 82)])⟩, ⟨none, (.pick 84 (.t 78) (.t 83) (.v (.k (.c (.bool false)))))⟩, ⟨none, (.mov 85 (.t 84))⟩, ⟨(some (85, true)), (.load 86 4 true (.t 3))⟩, ⟨(some (85, true)), (.call (some 87) 25 [(.t 86)])⟩, ⟨(some (85, true)), (.load 88 4 true (.t 3))⟩, ⟨(some (85, true)), (.call (some 89) 26 [(.t 88)])⟩, ⟨(some (85, true)), (.call (some 90) 22 [(.t 87), (.t 89)])⟩, ⟨none, (.pick 91 (.t 85) (.t 90) (.v (.k (.c (.bool false)))))⟩, ⟨none, (.mov 92 (.t 91))⟩, ⟨(some (92, true)), (.load 93 4 true (.t 3))⟩, ⟨(some (92, true)), (.call (some 94) 27 [(.t 93)])⟩, ⟨(some (92, true)), (.load 95 4 true (.t 3))⟩, ⟨(some (92, true)), (.call (some 96) 28 [(.t 95)])⟩, ⟨(some (92, true)), (.call (some 97) 22 [(.t 94), (.t 96)])⟩, ⟨none, (.pick 98 (.t 92) (.t 97) (.v (.k (.c (.bool false)))))⟩, ⟨none, (.mov 6 (.t 98))⟩]
theorem uf3r1 : type_of% @f3r1.eq_1 := id @f3r1.eq_1
def f3b2 : AQ := (.seq (.draw f3r1 [[], [0], [1], [1], [2, 3, 1], [1, 4], [5, 1], [6], [6], [7, 8, 6], [6, 9], [10, 6], [11], [12, 11, 11], [11], [14, 13, 11], [13, 15, 11], [11, 16], [17, 15], [18], [18], [19, 20, 18], [18, 21], [22, 18], [23], [23], [24, 25, 23], [23, 26], [27, 23], [28], [29, 28, 28], [28], [31, 30, 28], [30, 32, 32, 28], [28, 33], [34, 33], [35], [36, 35, 35], [35], [38, 37, 35], [37, 39, 39, 35], [35, 40], [41, 40], [42], [43, 42, 42], [42], [45, 44, 42], [44, 46, 46, 42], [42, 47], [48, 47, 0, 1, 2, 3, 4, 5, 6, 7, 8, 9, 10, 11, 12, 13, 14, 15, 16, 17, 18, 19, 20, 21, 22, 23, 24, 25, 26, 27, 28, 29, 30, 31, 32, 33, 34, 35, 36, 37, 38, 39, 40, 41, 42, 43, 44, 45, 46, 47, 48]]) .ret)
theorem uf3b2 (P ts os Q) : awl P f3b2 Q ts os = awl P (.seq (.draw f3r1 [[], [0], [1], [1], [2, 3, 1], [1, 4], [5, 1], [6], [6], [7, 8, 6], [6, 9], [10, 6], [11], [12, 11, 11], [11], [14, 13, 11], [13, 15, 11], [11, 16], [17, 15], [18], [18], [19, 20, 18], [18, 21], [22, 18], [23], [23], [24, 25, 23], [23, 26], [27, 23], [28], [29, 28, 28], [28], [31, 30, 28], [30, 32, 32, 28], [28, 33], [34, 33], [35], [36, 35, 35], [35], [38, 37, 35], [37, 39, 39, 35], [35, 40], [41, 40], [42], [43, 42, 42], [42], [45, 44, 42], [44, 46, 46, 42], [42, 47], [48, 47, 0, 1, 2, 3, 4, 5, 6, 7, 8, 9, 10, 11, 12, 13, 14, 15, 16, 17, 18, 19, 20, 21, 22, 23, 24, 25, 26, 27, 28, 29, 30, 31, 32, 33, 34, 35, 36, 37, 38, 39, 40, 41, 42, 43, 44, 45, 46, 47, 48]]) .ret) Q ts os := id rfl
def f3r3 : List AI := [⟨none, (.load 44 4 true (.t 3))⟩, ⟨none, (.load 45 4 true (.t 4))⟩, ⟨none, (.bslice 46 25 4 [(.str []), (.bool false), (.list 0 (some true) []), (.list 0 (some true) [])] 2 [(0, (.t 44)), (1, (.t 45))])⟩, ⟨none, (.call (some 47) 19 [(.t 46)])⟩, ⟨none, (.mov 43 (.t 47))⟩, ⟨none, (.extr 48 (.t 43) 0)⟩, ⟨none, (.extr 49 (.t 43) 1)⟩, ⟨none, (.mov 14 (.t 48))⟩, ⟨none, (.mov 15 (.t 49))⟩]
theorem uf3r3 : type_of% @f3r3.eq_1 := id @f3r3.eq_1
def f3b4 : AQ := (.seq (.region f3r3) f3b2)
theorem uf3b4 (P ts os Q) : awl P f3b4 Q ts os = awl P (.seq (.region f3r3) f3b2) Q ts os := id rfl
def f3r5 : List AI := [⟨none, (.load 37 4 true (.t 3))⟩, ⟨none, (.load 38 4 true (.t 4))⟩, ⟨none, (.bslice 39 25 4 [(.str []), (.bool false), (.list 0 (some true) []), (.list 0 (some true) [])] 2 [(0, (.t 37)), (1, (.t 38))])⟩, ⟨none, (.call (some 40) 18 [(.t 39)])⟩, ⟨none, (.mov 36 (.t 40))⟩, ⟨none, (.extr 41 (.t 36) 0)⟩, ⟨none, (.extr 42 (.t 36) 1)⟩, ⟨none, (.mov 12 (.t 41))⟩, ⟨none, (.mov 13 (.t 42))⟩]
theorem uf3r5 : type_of% @f3r5.eq_1 := id @f3r5.eq_1
def f3b6 : AQ := (.seq (.region f3r5) f3b4)
theorem uf3b6 (P ts os Q) : awl P f3b6 Q ts os = awl P (.seq (.region f3r5) f3b4) Q ts os := id rfl
def f3r7 : List AI := [⟨none, (.mov 32 (.t 2))⟩, ⟨none, (.call (some 33) 17 [(.t 32)])⟩, ⟨none, (.mov 31 (.t 33))⟩, ⟨none, (.extr 34 (.t 31) 0)⟩, ⟨none, (.extr 35 (.t 31) 1)⟩, ⟨none, (.mov 10 (.t 34))⟩, ⟨none, (.mov 11 (.t 35))⟩]
theorem uf3r7 : type_of% @f3r7.eq_1 := id @f3r7.eq_1
def f3b8 : AQ := (.seq (.region f3r7) f3b6)
theorem uf3b8 (P ts os Q) : awl P f3b8 Q ts os = awl P (.seq (.region f3r7) f3b6) Q ts os := id rfl
def f3r9 : List AI := [⟨none, (.mov 27 (.t 2))⟩, ⟨none, (.call (some 28) 16 [(.t 27)])⟩, ⟨none, (.mov 26 (.t 28))⟩, ⟨none, (.extr 29 (.t 26) 0)⟩, ⟨none, (.extr 30 (.t 26) 1)⟩, ⟨none, (.mov 8 (.t 29))⟩, ⟨none, (.mov 9 (.t 30))⟩]
theorem uf3r9 : type_of% @f3r9.eq_1 := id @f3r9.eq_1
def f3b10 : AQ := (.seq (.region f3r9) f3b8)
theorem uf3b10 (P ts os Q) : awl P f3b10 Q ts os = awl P (.seq (.region f3r9) f3b8) Q ts os := id rfl
def f3r11 : List AI := [⟨none, (.mov 25 (.t 7))⟩, ⟨none, (.mov 6 (.t 25))⟩]
theorem uf3r11 : type_of% @f3r11.eq_1 := id @f3r11.eq_1
def f3b12 : AQ := (.seq (.region f3r11) .ret)
theorem uf3b12 (P ts os Q) : awl P f3b12 Q ts os = awl P (.seq (.region f3r11) .ret) Q ts os := id rfl
def f3b13 : AQ := (.cond (.t 24) f3b12 .skip)
theorem uf3b13 (P ts os Q) : awl P f3b13 Q ts os = awl P (.cond (.t 24) f3b12 .skip) Q ts os := id rfl
def f3r14 : List AI := [⟨none, (.load 17 4 true (.t 3))⟩, ⟨none, (.call (some 18) 15 [(.t 17)])⟩, ⟨none, (.un 19 .not (.t 18))⟩, ⟨none, (.mov 20 (.t 19))⟩, ⟨(some (20, false)), (.load 21 4 true (.t 4))⟩, ⟨(some (20, false)), (.call (some 22) 15 [(.t 21)])⟩, ⟨(some (20, false)), (.un 23 .not (.t 22))⟩, ⟨none, (.pick 24 (.t 20) (.v (.k (.c (.bool true)))) (.t 23))⟩]
theorem uf3r14 : type_of% @f3r14.eq_1 := id @f3r14.eq_1
def f3b15 : AQ := (.seq (.region f3r14) f3b13)
theorem uf3b15 (P ts os Q) : awl P f3b15 Q ts os = awl P (.seq (.region f3r14) f3b13) Q ts os := id rfl
def f3b16 : AQ := (.seq f3b15 f3b10)
theorem uf3b16 (P ts os Q) : awl P f3b16 Q ts os = awl P (.seq f3b15 f3b10) Q ts os := id rfl
def f3r17 : List AI := [⟨none, (.call (some 16) 14 [])⟩, ⟨none, (.mov 7 (.t 16))⟩]
theorem uf3r17 : type_of% @f3r17.eq_1 := id @f3r17.eq_1
def f3b18 : AQ := (.seq (.region f3r17) f3b16)
theorem uf3b18 (P ts os Q) : awl P f3b18 Q ts os = awl P (.seq (.region f3r17) f3b16) Q ts os := id rfl
def f3r19 : List AI := [⟨none, (.box 3 25 (.t 0))⟩, ⟨none, (.box 4 25 (.t 1))⟩, ⟨none, (.mov 6 (.v (.k (.c (.bool false)))))⟩]
theorem uf3r19 : type_of% @f3r19.eq_1 := id @f3r19.eq_1
def f3b20 : AQ := (.seq (.region f3r19) f3b18)
theorem uf3b20 (P ts os Q) : awl P f3b20 Q ts os = awl P (.seq (.region f3r19) f3b18) Q ts os := id rfl
def f3 : AQ := f3b20
theorem uf3 (P ts os Q) : awl P f3 Q ts os = awl P f3b20 Q ts os := id rfl
theorem hf3 : cFunc Try.prog 3 = some ⟨99, f3.erase, [(RX.t 6)]⟩ := by kernel_rfl
theorem okf3 : f3.ok = true := by kernel_rfl
/-! ### function 14 -/
def f14r1 : List AI := [⟨none, (.mov 126 (.t 13))⟩, ⟨none, (.mov 127 (.t 126))⟩, ⟨(some (127, true)), (.mov 128 (.t 14))⟩, ⟨none, (.pick 129 (.t 127) (.t 128) (.v (.k (.c (.bool false)))))⟩, ⟨none, (.mov 130 (.t 129))⟩, ⟨(some (130, true)), (.mov 131 (.t 15))⟩, ⟨none, (.pick 132 (.t 130) (.t 131) (.v (.k (.c (.bool false)))))⟩, ⟨none, (.mov 0 (.t 132))⟩]
theorem uf14r1 : type_of% @f14r1.eq_1 := id @f14r1.eq_1
def f14b2 : AQ := (.seq (.region f14r1) .ret)
theorem uf14b2 (P ts os Q) : awl P f14b2 Q ts os = awl P (.seq (.region f14r1) .ret) Q ts os := id rfl
def f14r3 : List AI := [⟨none, (.load 104 4 true (.t 4))⟩, ⟨none, (.call (some 105) 23 [(.t 104)])⟩, ⟨none, (.len 106 (.t 105))⟩, ⟨none, (.bin 107 .eql (.t 106) (.v (.k (.c (.int .i64 20)))))⟩, ⟨none, (.mov 108 (.t 107))⟩, ⟨(some (108, true)), (.load 109 4 true (.t 5))⟩, ⟨(some (108, true)), (.call (some 110) 23 [(.t 109)])⟩, ⟨(some (108, true)), (.len 111 (.t 110))⟩, ⟨(some (108, true)), (.bin 112 .eql (.t 111) (.v (.k (.c (.int .i64 21)))))⟩, ⟨none, (.pick 113 (.t 108) (.t 112) (.v (.k (.c (.bool false)))))⟩, ⟨none, (.mov 114 (.t 113))⟩, ⟨(some (114, true)), (.load 115 4 true (.t 4))⟩, ⟨(some (114, true)), (.call (some 116) 27 [(.t 115)])⟩, ⟨(some (114, true)), (.len 117 (.t 116))⟩, ⟨(some (114, true)), (.bin 118 .eql (.t 117) (.v (.k (.c (.int .i64 0)))))⟩, ⟨none, (.pick 119 (.t 114) (.t 118) (.v (.k (.c (.bool false)))))⟩, ⟨none, (.mov 120 (.t 119))⟩, ⟨(some (120, true)), (.load 121 4 true (.t 5))⟩, ⟨(some (120, true)), (.call (some 122) 27 [(.t 121)])⟩, ⟨(some (120, true)), (.bslice 123 3 1 [(.int .i64 0)] 1 [(0, (.v (.k (.c (.int .i64 0)))))])⟩, ⟨(some (120, true)), (.call (some 124) 22 [(.t 122), (.t 123)])⟩, ⟨none, (.pick 125 (.t 120) (.t 124) (.v (.k (.c (.bool false)))))⟩, ⟨none, (.mov 15 (.t 125))⟩]
theorem uf14r3 : type_of% @f14r3.eq_1 := id @f14r3.eq_1
def f14b4 : AQ := (.seq (.region f14r3) f14b2)
theorem uf14b4 (P ts os Q) : awl P f14b4 Q ts os = awl P (.seq (.region f14r3) f14b2) Q ts os := id rfl
def f14r5 : List AI := [⟨none, (.load 88 4 true (.t 4))⟩, ⟨none, (.call (some 89) 25 [(.t 88)])⟩, ⟨none, (.bslice 90 3 1 [(.int .i64 0)] 1 [(0, (.v (.k (.c (.int .i64 7)))))])⟩, ⟨none, (.call (some 91) 22 [(.t 89), (.t 90)])⟩, ⟨none, (.mov 92 (.t 91))⟩, ⟨(some (92, true)), (.load 93 4 true (.t 5))⟩, ⟨(some (92, true)), (.call (some 94) 25 [(.t 93)])⟩, ⟨(some (92, true)), (.bslice 95 3 1 [(.int .i64 0)] 1 [(0, (.v (.k (.c (.int .i64 15)))))])⟩, ⟨(some (92, true)), (.call (some 96) 22 [(.t 94), (.t 95)])⟩, ⟨none, (.pick 97 (.t 92) (.t 96) (.v (.k (.c (.bool false)))))⟩, ⟨none, (.mov 98 (.t 97))⟩, ⟨(some (98, true)), (.load 99 4 true (.t 6))⟩, ⟨(some (98, true)), (.call (some 100) 25 [(.t 99)])⟩, ⟨(some (98, true)), (.len 101 (.t 100))⟩, ⟨(some (98, true)), (.bin 102 .eql (.t 101) (.v (.k (.c (.int .i64 0)))))⟩, ⟨none, (.pick 103 (.t 98) (.t 102) (.v (.k (.c (.bool false)))))⟩, ⟨none, (.mov 14 (.t 103))⟩]
theorem uf14r5 : type_of% @f14r5.eq_1 := id @f14r5.eq_1
def f14b6 : AQ := (.seq (.region f14r5) f14b4)
theorem uf14b6 (P ts os Q) : awl P f14b6 Q ts os = awl P (.seq (.region f14r5) f14b4) Q ts os := id rfl
def f14r7 : List AI := [⟨none, (.load 52 4 true (.t 4))⟩, ⟨none, (.call (some 53) 20 [(.t 52)])⟩, ⟨none, (.bin 54 .eql (.t 53) (.v (.k (.c (.int .i64 0)))))⟩, ⟨none, (.mov 55 (.t 54))⟩, ⟨(some (55, true)), (.load 56 4 true (.t 5))⟩, ⟨(some (55, true)), (.call (some 57) 20 [(.t 56)])⟩, ⟨(some (55, true)), (.bin 58 .eql (.t 57) (.v (.k (.c (.int .i64 0)))))⟩, ⟨none, (.pick 59 (.t 55) (.t 58) (.v (.k (.c (.bool false)))))⟩, ⟨none, (.mov 60 (.t 59))⟩, ⟨(some (60, true)), (.load 61 4 true (.t 6))⟩, ⟨(some (60, true)), (.call (some 62) 20 [(.t 61)])⟩, ⟨(some (60, true)), (.bin 63 .eql (.t 62) (.v (.k (.c (.int .i64 11)))))⟩, ⟨none, (.pick 64 (.t 60) (.t 63) (.v (.k (.c (.bool false)))))⟩, ⟨none, (.mov 65 (.t 64))⟩, ⟨(some (65, true)), (.mov 66 (.t 7))⟩, ⟨(some (65, true)), (.bin 67 .eql (.t 66) (.v (.k (.c (.int .i64 1)))))⟩, ⟨none, (.pick 68 (.t 65) (.t 67) (.v (.k (.c (.bool false)))))⟩, ⟨none, (.mov 69 (.t 68))⟩, ⟨(some (69, true)), (.mov 70 (.t 8))⟩, ⟨(some (69, true)), (.bin 71 .eql (.t 70) (.v (.k (.c (.int .i64 11)))))⟩, ⟨none, (.pick 72 (.t 69) (.t 71) (.v (.k (.c (.bool false)))))⟩, ⟨none, (.mov 73 (.t 72))⟩, ⟨(some (73, true)), (.mov 74 (.t 9))⟩, ⟨(some (73, true)), (.bin 75 .eql (.t 74) (.v (.k (.c (.int .i64 (-1))))))⟩, ⟨none, (.pick 76 (.t 73) (.t 75) (.v (.k (.c (.bool false)))))⟩, ⟨none, (.mov 77 (.t 76))⟩, ⟨(some (77, true)), (.mov 78 (.t 10))⟩, ⟨(some (77, true)), (.bin 79 .eql (.t 78) (.v (.k (.c (.int .i64 0)))))⟩, ⟨none, (.pick 80 (.t 77) (.t 79) (.v (.k (.c (.bool false)))))⟩, ⟨none, (.mov 81 (.t 80))⟩, ⟨(some (81, true)), (.mov 82 (.t 11))⟩, ⟨(some (81, true)), (.bin 83 .eql (.t 82) (.v (.k (.c (.int .i64 0)))))⟩, ⟨none, (.pick 84 (.t 81) (.t 83) (.v (.k (.c (.bool false)))))⟩, ⟨none, (.mov 85 (.t 84))⟩, ⟨(some (85, true)), (.mov 86 (.t 12))⟩, ⟨none, (.pick 87 (.t 85) (.t 86) (.v (.k (.c (.bool false)))))⟩, ⟨none, (.mov 13 (.t 87))⟩]
theorem uf14r7 : type_of% @f14r7.eq_1 := id @f14r7.eq_1
def f14b8 : AQ := (.seq (.region f14r7) f14b6)
theorem uf14b8 (P ts os Q) : awl P f14b8 Q ts os = awl P (.seq (.region f14r7) f14b6) Q ts os := id rfl
def f14r9 : List AI := [⟨none, (.call (some 49) 16 [(.v (.k (.c (.int .i64 6))))])⟩, ⟨none, (.mov 48 (.t 49))⟩, ⟨none, (.extr 50 (.t 48) 0)⟩, ⟨none, (.extr 51 (.t 48) 1)⟩, ⟨none, (.mov 11 (.t 50))⟩, ⟨none, (.mov 12 (.t 51))⟩]
theorem uf14r9 : type_of% @f14r9.eq_1 := id @f14r9.eq_1
def f14b10 : AQ := (.seq (.region f14r9) f14b8)
theorem uf14b10 (P ts os Q) : awl P f14b10 Q ts os = awl P (.seq (.region f14r9) f14b8) Q ts os := id rfl
def f14r11 : List AI := [⟨none, (.load 42 4 true (.t 4))⟩, ⟨none, (.load 43 4 true (.t 5))⟩, ⟨none, (.bslice 44 25 4 [(.str []), (.bool false), (.list 0 (some true) []), (.list 0 (some true) [])] 2 [(0, (.t 42)), (1, (.t 43))])⟩, ⟨none, (.call (some 45) 18 [(.t 44)])⟩, ⟨none, (.mov 41 (.t 45))⟩, ⟨none, (.extr 46 (.t 41) 0)⟩, ⟨none, (.extr 47 (.t 41) 1)⟩, ⟨none, (.mov 9 (.t 46))⟩, ⟨none, (.mov 10 (.t 47))⟩]
theorem uf14r11 : type_of% @f14r11.eq_1 := id @f14r11.eq_1
def f14b12 : AQ := (.seq (.region f14r11) f14b10)
theorem uf14b12 (P ts os Q) : awl P f14b12 Q ts os = awl P (.seq (.region f14r11) f14b10) Q ts os := id rfl
def f14r13 : List AI := [⟨none, (.load 34 4 true (.t 4))⟩, ⟨none, (.load 35 4 true (.t 6))⟩, ⟨none, (.load 36 4 true (.t 5))⟩, ⟨none, (.bslice 37 25 4 [(.str []), (.bool false), (.list 0 (some true) []), (.list 0 (some true) [])] 3 [(0, (.t 34)), (1, (.t 35)), (2, (.t 36))])⟩, ⟨none, (.call (some 38) 18 [(.t 37)])⟩, ⟨none, (.mov 33 (.t 38))⟩, ⟨none, (.extr 39 (.t 33) 0)⟩, ⟨none, (.extr 40 (.t 33) 1)⟩, ⟨none, (.mov 7 (.t 39))⟩, ⟨none, (.mov 8 (.t 40))⟩]
theorem uf14r13 : type_of% @f14r13.eq_1 := id @f14r13.eq_1
def f14b14 : AQ := (.seq (.region f14r13) f14b12)
theorem uf14b14 (P ts os Q) : awl P f14b14 Q ts os = awl P (.seq (.region f14r13) f14b12) Q ts os := id rfl
def f14r15 : List AI := [⟨none, (.load 29 3 true (.t 3))⟩, ⟨none, (.build 30 [(.int .i64 0), (.int .i64 0), (.int .i64 0), (.list 0 (some true) [])] [(0, (1, (.v (.k (.c (.int .i64 0)))))), (1, (3, (.t 29)))])⟩, ⟨none, (.bslice 31 43 4 [(.int .i64 0), (.int .i64 0), (.int .i64 0), (.list 0 (some true) [])] 1 [(0, (.t 30))])⟩, ⟨none, (.build 32 [(.str []), (.bool false), (.list 0 (some true) []), (.list 0 (some true) [])] [(3, (1, (.t 31)))])⟩, ⟨none, (.alloc 6 25 [(.str []), (.bool false), (.list 0 (some true) []), (.list 0 (some true) [])])⟩, ⟨none, (.store 4 (.t 6) (.t 32))⟩]
theorem uf14r15 : type_of% @f14r15.eq_1 := id @f14r15.eq_1
def f14b16 : AQ := (.seq (.region f14r15) (.frz 31 f14b14))
theorem uf14b16 (P ts os Q) : awl P f14b16 Q ts os = awl P (.seq (.region f14r15) (.frz 31 f14b14)) Q ts os := id rfl
def f14r17 : List AI := [⟨none, (.load 25 3 true (.t 2))⟩, ⟨none, (.build 26 [(.int .i64 0), (.int .i64 0), (.int .i64 0), (.list 0 (some true) [])] [(0, (1, (.v (.k (.c (.int .i64 0)))))), (1, (3, (.t 25)))])⟩, ⟨none, (.bslice 27 43 4 [(.int .i64 0), (.int .i64 0), (.int .i64 0), (.list 0 (some true) [])] 1 [(0, (.t 26))])⟩, ⟨none, (.build 28 [(.str []), (.bool false), (.list 0 (some true) []), (.list 0 (some true) [])] [(3, (1, (.t 27)))])⟩, ⟨none, (.alloc 5 25 [(.str []), (.bool false), (.list 0 (some true) []), (.list 0 (some true) [])])⟩, ⟨none, (.store 4 (.t 5) (.t 28))⟩]
theorem uf14r17 : type_of% @f14r17.eq_1 := id @f14r17.eq_1
def f14b18 : AQ := (.seq (.region f14r17) (.frz 27 f14b16))
theorem uf14b18 (P ts os Q) : awl P f14b18 Q ts os = awl P (.seq (.region f14r17) (.frz 27 f14b16)) Q ts os := id rfl
def f14r19 : List AI := [⟨none, (.load 19 3 true (.t 1))⟩, ⟨none, (.build 20 [(.int .i64 0), (.int .i64 0), (.int .i64 0), (.list 0 (some true) [])] [(0, (1, (.v (.k (.c (.int .i64 0)))))), (1, (3, (.t 19)))])⟩, ⟨none, (.load 21 3 true (.t 3))⟩, ⟨none, (.build 22 [(.int .i64 0), (.int .i64 0), (.int .i64 0), (.list 0 (some true) [])] [(0, (1, (.v (.k (.c (.int .i64 6)))))), (1, (3, (.t 21)))])⟩, ⟨none, (.bslice 23 43 4 [(.int .i64 0), (.int .i64 0), (.int .i64 0), (.list 0 (some true) [])] 2 [(0, (.t 20)), (1, (.t 22))])⟩, ⟨none, (.build 24 [(.str []), (.bool false), (.list 0 (some true) []), (.list 0 (some true) [])] [(3, (1, (.t 23)))])⟩, ⟨none, (.alloc 4 25 [(.str []), (.bool false), (.list 0 (some true) []), (.list 0 (some true) [])])⟩, ⟨none, (.store 4 (.t 4) (.t 24))⟩]
theorem uf14r19 : type_of% @f14r19.eq_1 := id @f14r19.eq_1
def f14b20 : AQ := (.seq (.region f14r19) (.frz 23 f14b18))
theorem uf14b20 (P ts os Q) : awl P f14b20 Q ts os = awl P (.seq (.region f14r19) (.frz 23 f14b18)) Q ts os := id rfl
def f14r21 : List AI := [⟨none, (.build 18 [(.int .i64 0), (.int .i64 0), (.list 0 (some true) [])] [(0, (1, (.v (.k (.c (.int .i64 0)))))), (1, (1, (.v (.k (.c (.int .i64 3))))))])⟩, ⟨none, (.alloc 3 41 [(.int .i64 0), (.int .i64 0), (.list 0 (some true) [])])⟩, ⟨none, (.store 3 (.t 3) (.t 18))⟩]
theorem uf14r21 : type_of% @f14r21.eq_1 := id @f14r21.eq_1
def f14b22 : AQ := (.seq (.region f14r21) f14b20)
theorem uf14b22 (P ts os Q) : awl P f14b22 Q ts os = awl P (.seq (.region f14r21) f14b20) Q ts os := id rfl
def f14r23 : List AI := [⟨none, (.build 17 [(.int .i64 0), (.int .i64 0), (.list 0 (some true) [])] [(0, (1, (.v (.k (.c (.int .i64 2)))))), (1, (1, (.v (.k (.c (.int .i64 15))))))])⟩, ⟨none, (.alloc 2 41 [(.int .i64 0), (.int .i64 0), (.list 0 (some true) [])])⟩, ⟨none, (.store 3 (.t 2) (.t 17))⟩]
theorem uf14r23 : type_of% @f14r23.eq_1 := id @f14r23.eq_1
def f14b24 : AQ := (.seq (.region f14r23) f14b22)
theorem uf14b24 (P ts os Q) : awl P f14b24 Q ts os = awl P (.seq (.region f14r23) f14b22) Q ts os := id rfl
def f14r25 : List AI := [⟨none, (.build 16 [(.int .i64 0), (.int .i64 0), (.list 0 (some true) [])] [(0, (1, (.v (.k (.c (.int .i64 2)))))), (1, (1, (.v (.k (.c (.int .i64 7))))))])⟩, ⟨none, (.alloc 1 41 [(.int .i64 0), (.int .i64 0), (.list 0 (some true) [])])⟩, ⟨none, (.store 3 (.t 1) (.t 16))⟩]
theorem uf14r25 : type_of% @f14r25.eq_1 := id @f14r25.eq_1
def f14b26 : AQ := (.seq (.region f14r25) f14b24)
theorem uf14b26 (P ts os Q) : awl P f14b26 Q ts os = awl P (.seq (.region f14r25) f14b24) Q ts os := id rfl
def f14r27 : List AI := [⟨none, (.mov 0 (.v (.k (.c (.bool false)))))⟩]
theorem uf14r27 : type_of% @f14r27.eq_1 := id @f14r27.eq_1
def f14b28 : AQ := (.seq (.region f14r27) f14b26)
theorem uf14b28 (P ts os Q) : awl P f14b28 Q ts os = awl P (.seq (.region f14r27) f14b26) Q ts os := id rfl
def f14 : AQ := f14b28
theorem uf14 (P ts os Q) : awl P f14 Q ts os = awl P f14b28 Q ts os := id rfl
theorem hf14 : cFunc Try.prog 14 = some ⟨133, f14.erase, [(RX.t 0)]⟩ := by kernel_rfl
theorem okf14 : f14.ok = true := by kernel_rfl
/-! ### function 15 -/
def f15r1 : List AI := [⟨none, (.mov 2 (.v (.k (.c (.bool true)))))⟩]
theorem uf15r1 : type_of% @f15r1.eq_1 := id @f15r1.eq_1
def f15b2 : AQ := (.seq (.region f15r1) .ret)
theorem uf15b2 (P ts os Q) : awl P f15b2 Q ts os = awl P (.seq (.region f15r1) .ret) Q ts os := id rfl
def f15r3 : List AI := [⟨none, (.mov 19 (.t 3))⟩, ⟨none, (.bin 20 .add (.t 19) (.v (.k (.c (.int .i64 1)))))⟩, ⟨none, (.mov 3 (.t 20))⟩]
theorem uf15r3 : type_of% @f15r3.eq_1 := id @f15r3.eq_1
def f15r4 : List AI := [⟨none, (.mov 2 (.v (.k (.c (.bool false)))))⟩]
theorem uf15r4 : type_of% @f15r4.eq_1 := id @f15r4.eq_1
def f15b5 : AQ := (.seq (.region f15r4) .ret)
theorem uf15b5 (P ts os Q) : awl P f15b5 Q ts os = awl P (.seq (.region f15r4) .ret) Q ts os := id rfl
def f15b6 : AQ := (.cond (.t 28) f15b5 .skip)
theorem uf15b6 (P ts os Q) : awl P f15b6 Q ts os = awl P (.cond (.t 28) f15b5 .skip) Q ts os := id rfl
def f15r7 : List AI := [⟨none, (.faddr 21 3 (.t 1))⟩, ⟨none, (.load 22 1 false (.t 21))⟩, ⟨none, (.mov 23 (.t 3))⟩, ⟨none, (.iaddr 24 4 (.t 22) (.t 23))⟩, ⟨none, (.faddr 25 1 (.t 24))⟩, ⟨none, (.load 26 3 true (.t 25))⟩, ⟨none, (.call (some 27) 30 [(.t 26)])⟩, ⟨none, (.un 28 .not (.t 27))⟩]
theorem uf15r7 : type_of% @f15r7.eq_1 := id @f15r7.eq_1
def f15b8 : AQ := (.seq (.region f15r7) f15b6)
theorem uf15b8 (P ts os Q) : awl P f15b8 Q ts os = awl P (.seq (.region f15r7) f15b6) Q ts os := id rfl
def f15b9 : AQ := (.block 1 f15b8)
theorem uf15b9 (P ts os Q) : awl P f15b9 Q ts os = awl P (.block 1 f15b8) Q ts os := id rfl
def f15b10 : AQ := (.seq f15b9 (.region f15r3))
theorem uf15b10 (P ts os Q) : awl P f15b10 Q ts os = awl P (.seq f15b9 (.region f15r3)) Q ts os := id rfl
def f15b11 : AQ := (.cond (.t 18) .skip (.exit 0))
theorem uf15b11 (P ts os Q) : awl P f15b11 Q ts os = awl P (.cond (.t 18) .skip (.exit 0)) Q ts os := id rfl
def f15r12 : List AI := [⟨none, (.mov 14 (.t 3))⟩, ⟨none, (.faddr 15 3 (.t 1))⟩, ⟨none, (.load 16 1 false (.t 15))⟩, ⟨none, (.len 17 (.t 16))⟩, ⟨none, (.bin 18 .lss (.t 14) (.t 17))⟩]
theorem uf15r12 : type_of% @f15r12.eq_1 := id @f15r12.eq_1
def f15b13 : AQ := (.seq (.region f15r12) f15b11)
theorem uf15b13 (P ts os Q) : awl P f15b13 Q ts os = awl P (.seq (.region f15r12) f15b11) Q ts os := id rfl
def f15b14 : AQ := (.seq f15b13 f15b10)
theorem uf15b14 (P ts os Q) : awl P f15b14 Q ts os = awl P (.seq f15b13 f15b10) Q ts os := id rfl
def f15l15 : AQ := .loop [1, 3] [1] f15b14
theorem uf15l15 (P ts os Q) : awl P f15l15 Q ts os = awl P (.loop [1, 3] [1] f15b14) Q ts os := id rfl
def f15b16 : AQ := (.block 0 f15l15)
theorem uf15b16 (P ts os Q) : awl P f15b16 Q ts os = awl P (.block 0 f15l15) Q ts os := id rfl
def f15r17 : List AI := [⟨none, (.mov 3 (.v (.k (.c (.int .i64 0)))))⟩]
theorem uf15r17 : type_of% @f15r17.eq_1 := id @f15r17.eq_1
def f15b18 : AQ := (.seq (.region f15r17) f15b16)
theorem uf15b18 (P ts os Q) : awl P f15b18 Q ts os = awl P (.seq (.region f15r17) f15b16) Q ts os := id rfl
def f15b19 : AQ := (.seq f15b18 f15b2)
theorem uf15b19 (P ts os Q) : awl P f15b19 Q ts os = awl P (.seq f15b18 f15b2) Q ts os := id rfl
def f15r20 : List AI := [⟨none, (.mov 2 (.v (.k (.c (.bool false)))))⟩]
theorem uf15r20 : type_of% @f15r20.eq_1 := id @f15r20.eq_1
def f15b21 : AQ := (.seq (.region f15r20) .ret)
theorem uf15b21 (P ts os Q) : awl P f15b21 Q ts os = awl P (.seq (.region f15r20) .ret) Q ts os := id rfl
def f15b22 : AQ := (.cond (.t 13) f15b21 .skip)
theorem uf15b22 (P ts os Q) : awl P f15b22 Q ts os = awl P (.cond (.t 13) f15b21 .skip) Q ts os := id rfl
def f15r23 : List AI := [⟨none, (.faddr 4 2 (.t 1))⟩, ⟨none, (.load 5 1 false (.t 4))⟩, ⟨none, (.len 6 (.t 5))⟩, ⟨none, (.bin 7 .gtr (.t 6) (.v (.k (.c (.int .i64 60)))))⟩, ⟨none, (.mov 8 (.t 7))⟩, ⟨(some (8, false)), (.faddr 9 3 (.t 1))⟩, ⟨(some (8, false)), (.load 10 1 false (.t 9))⟩, ⟨(some (8, false)), (.len 11 (.t 10))⟩, ⟨(some (8, false)), (.bin 12 .gtr (.t 11) (.v (.k (.c (.int .i64 60)))))⟩, ⟨none, (.pick 13 (.t 8) (.v (.k (.c (.bool true)))) (.t 12))⟩]
theorem uf15r23 : type_of% @f15r23.eq_1 := id @f15r23.eq_1
def f15b24 : AQ := (.seq (.region f15r23) f15b22)
theorem uf15b24 (P ts os Q) : awl P f15b24 Q ts os = awl P (.seq (.region f15r23) f15b22) Q ts os := id rfl
def f15b25 : AQ := (.seq f15b24 f15b19)
theorem uf15b25 (P ts os Q) : awl P f15b25 Q ts os = awl P (.seq f15b24 f15b19) Q ts os := id rfl
def f15r26 : List AI := [⟨none, (.box 1 25 (.t 0))⟩, ⟨none, (.mov 2 (.v (.k (.c (.bool false)))))⟩]
theorem uf15r26 : type_of% @f15r26.eq_1 := id @f15r26.eq_1
def f15b27 : AQ := (.seq (.region f15r26) f15b25)
theorem uf15b27 (P ts os Q) : awl P f15b27 Q ts os = awl P (.seq (.region f15r26) f15b25) Q ts os := id rfl
def f15 : AQ := f15b27
theorem uf15 (P ts os Q) : awl P f15 Q ts os = awl P f15b27 Q ts os := id rfl
theorem hf15 : cFunc Try.prog 15 = some ⟨29, f15.erase, [(RX.t 2)]⟩ := by kernel_rfl
theorem okf15 : f15.ok = true := by kernel_rfl
/-! ### function 16 -/
def f16r1 : List AI := [⟨none, (.call (some 10) 44 [])⟩, ⟨none, (.mov 11 (.t 0))⟩, ⟨none, (.aidx 12 1 22 false (.t 10) (.t 11))⟩, ⟨none, (.mov 2 (.t 12))⟩, ⟨none, (.mov 3 (.v (.k (.c (.bool true)))))⟩]
theorem uf16r1 : type_of% @f16r1.eq_1 := id @f16r1.eq_1
def f16b2 : AQ := (.seq (.region f16r1) .ret)
theorem uf16b2 (P ts os Q) : awl P f16b2 Q ts os = awl P (.seq (.region f16r1) .ret) Q ts os := id rfl
def f16r3 : List AI := [⟨none, (.mov 2 (.v (.k (.c (.int .i64 0)))))⟩, ⟨none, (.mov 3 (.v (.k (.c (.bool false)))))⟩]
theorem uf16r3 : type_of% @f16r3.eq_1 := id @f16r3.eq_1
def f16b4 : AQ := (.seq (.region f16r3) .ret)
theorem uf16b4 (P ts os Q) : awl P f16b4 Q ts os = awl P (.seq (.region f16r3) .ret) Q ts os := id rfl
def f16b5 : AQ := (.cond (.t 9) f16b4 .skip)
theorem uf16b5 (P ts os Q) : awl P f16b5 Q ts os = awl P (.cond (.t 9) f16b4 .skip) Q ts os := id rfl
def f16r6 : List AI := [⟨none, (.mov 4 (.t 0))⟩, ⟨none, (.bin 5 .lss (.t 4) (.v (.k (.c (.int .i64 0)))))⟩, ⟨none, (.mov 6 (.t 5))⟩, ⟨(some (6, false)), (.mov 7 (.t 0))⟩, ⟨(some (6, false)), (.bin 8 .geq (.t 7) (.v (.k (.c (.int .i64 22)))))⟩, ⟨none, (.pick 9 (.t 6) (.v (.k (.c (.bool true)))) (.t 8))⟩]
theorem uf16r6 : type_of% @f16r6.eq_1 := id @f16r6.eq_1
def f16b7 : AQ := (.seq (.region f16r6) f16b5)
theorem uf16b7 (P ts os Q) : awl P f16b7 Q ts os = awl P (.seq (.region f16r6) f16b5) Q ts os := id rfl
def f16b8 : AQ := (.seq f16b7 f16b2)
theorem uf16b8 (P ts os Q) : awl P f16b8 Q ts os = awl P (.seq f16b7 f16b2) Q ts os := id rfl
def f16r9 : List AI := [⟨none, (.mov 2 (.v (.k (.c (.int .i64 0)))))⟩, ⟨none, (.mov 3 (.v (.k (.c (.bool false)))))⟩]
theorem uf16r9 : type_of% @f16r9.eq_1 := id @f16r9.eq_1
def f16b10 : AQ := (.seq (.region f16r9) f16b8)
theorem uf16b10 (P ts os Q) : awl P f16b10 Q ts os = awl P (.seq (.region f16r9) f16b8) Q ts os := id rfl
def f16 : AQ := f16b10
theorem uf16 (P ts os Q) : awl P f16 Q ts os = awl P f16b10 Q ts os := id rfl
theorem hf16 : cFunc Try.prog 16 = some ⟨13, f16.erase, [(RX.t 2), (RX.t 3)]⟩ := by kernel_rfl
theorem okf16 : f16.ok = true := by kernel_rfl
/-! ### function 17 -/
def f17r1 : List AI := [⟨none, (.mov 2 (.v (.k (.c (.int .i64 1)))))⟩, ⟨none, (.mov 3 (.v (.k (.c (.bool true)))))⟩]
theorem uf17r1 : type_of% @f17r1.eq_1 := id @f17r1.eq_1
def f17b2 : AQ := (.seq (.region f17r1) .ret)
theorem uf17b2 (P ts os Q) : awl P f17b2 Q ts os = awl P (.seq (.region f17r1) .ret) Q ts os := id rfl
def f17r3 : List AI := [⟨none, (.mov 2 (.v (.k (.c (.int .i64 0)))))⟩, ⟨none, (.mov 3 (.v (.k (.c (.bool true)))))⟩]
theorem uf17r3 : type_of% @f17r3.eq_1 := id @f17r3.eq_1
def f17b4 : AQ := (.seq (.region f17r3) .ret)
theorem uf17b4 (P ts os Q) : awl P f17b4 Q ts os = awl P (.seq (.region f17r3) .ret) Q ts os := id rfl
def f17b5 : AQ := (.cond (.t 11) f17b4 .skip)
theorem uf17b5 (P ts os Q) : awl P f17b5 Q ts os = awl P (.cond (.t 11) f17b4 .skip) Q ts os := id rfl
def f17r6 : List AI := [⟨none, (.bin 21 .eql (.t 10) (.v (.k (.c (.int .i64 21)))))⟩, ⟨none, (.mov 11 (.t 21))⟩]
theorem uf17r6 : type_of% @f17r6.eq_1 := id @f17r6.eq_1
def f17b7 : AQ := (.cond (.t 11) .skip (.region f17r6))
theorem uf17b7 (P ts os Q) : awl P f17b7 Q ts os = awl P (.cond (.t 11) .skip (.region f17r6)) Q ts os := id rfl
def f17r8 : List AI := [⟨none, (.bin 20 .eql (.t 10) (.v (.k (.c (.int .i64 20)))))⟩, ⟨none, (.mov 11 (.t 20))⟩]
theorem uf17r8 : type_of% @f17r8.eq_1 := id @f17r8.eq_1
def f17b9 : AQ := (.seq (.region f17r8) f17b7)
theorem uf17b9 (P ts os Q) : awl P f17b9 Q ts os = awl P (.seq (.region f17r8) f17b7) Q ts os := id rfl
def f17b10 : AQ := (.cond (.t 11) .skip f17b9)
theorem uf17b10 (P ts os Q) : awl P f17b10 Q ts os = awl P (.cond (.t 11) .skip f17b9) Q ts os := id rfl
def f17r11 : List AI := [⟨none, (.bin 19 .eql (.t 10) (.v (.k (.c (.int .i64 16)))))⟩, ⟨none, (.mov 11 (.t 19))⟩]
theorem uf17r11 : type_of% @f17r11.eq_1 := id @f17r11.eq_1
def f17b12 : AQ := (.seq (.region f17r11) f17b10)
theorem uf17b12 (P ts os Q) : awl P f17b12 Q ts os = awl P (.seq (.region f17r11) f17b10) Q ts os := id rfl
def f17b13 : AQ := (.cond (.t 11) .skip f17b12)
theorem uf17b13 (P ts os Q) : awl P f17b13 Q ts os = awl P (.cond (.t 11) .skip f17b12) Q ts os := id rfl
def f17r14 : List AI := [⟨none, (.bin 18 .eql (.t 10) (.v (.k (.c (.int .i64 15)))))⟩, ⟨none, (.mov 11 (.t 18))⟩]
theorem uf17r14 : type_of% @f17r14.eq_1 := id @f17r14.eq_1
def f17b15 : AQ := (.seq (.region f17r14) f17b13)
theorem uf17b15 (P ts os Q) : awl P f17b15 Q ts os = awl P (.seq (.region f17r14) f17b13) Q ts os := id rfl
def f17b16 : AQ := (.cond (.t 11) .skip f17b15)
theorem uf17b16 (P ts os Q) : awl P f17b16 Q ts os = awl P (.cond (.t 11) .skip f17b15) Q ts os := id rfl
def f17r17 : List AI := [⟨none, (.bin 17 .eql (.t 10) (.v (.k (.c (.int .i64 14)))))⟩, ⟨none, (.mov 11 (.t 17))⟩]
theorem uf17r17 : type_of% @f17r17.eq_1 := id @f17r17.eq_1
def f17b18 : AQ := (.seq (.region f17r17) f17b16)
theorem uf17b18 (P ts os Q) : awl P f17b18 Q ts os = awl P (.seq (.region f17r17) f17b16) Q ts os := id rfl
def f17b19 : AQ := (.cond (.t 11) .skip f17b18)
theorem uf17b19 (P ts os Q) : awl P f17b19 Q ts os = awl P (.cond (.t 11) .skip f17b18) Q ts os := id rfl
def f17r20 : List AI := [⟨none, (.bin 16 .eql (.t 10) (.v (.k (.c (.int .i64 13)))))⟩, ⟨none, (.mov 11 (.t 16))⟩]
theorem uf17r20 : type_of% @f17r20.eq_1 := id @f17r20.eq_1
def f17b21 : AQ := (.seq (.region f17r20) f17b19)
theorem uf17b21 (P ts os Q) : awl P f17b21 Q ts os = awl P (.seq (.region f17r20) f17b19) Q ts os := id rfl
def f17b22 : AQ := (.cond (.t 11) .skip f17b21)
theorem uf17b22 (P ts os Q) : awl P f17b22 Q ts os = awl P (.cond (.t 11) .skip f17b21) Q ts os := id rfl
def f17r23 : List AI := [⟨none, (.bin 15 .eql (.t 10) (.v (.k (.c (.int .i64 12)))))⟩, ⟨none, (.mov 11 (.t 15))⟩]
theorem uf17r23 : type_of% @f17r23.eq_1 := id @f17r23.eq_1
def f17b24 : AQ := (.seq (.region f17r23) f17b22)
theorem uf17b24 (P ts os Q) : awl P f17b24 Q ts os = awl P (.seq (.region f17r23) f17b22) Q ts os := id rfl
def f17b25 : AQ := (.cond (.t 11) .skip f17b24)
theorem uf17b25 (P ts os Q) : awl P f17b25 Q ts os = awl P (.cond (.t 11) .skip f17b24) Q ts os := id rfl
def f17r26 : List AI := [⟨none, (.bin 14 .eql (.t 10) (.v (.k (.c (.int .i64 10)))))⟩, ⟨none, (.mov 11 (.t 14))⟩]
theorem uf17r26 : type_of% @f17r26.eq_1 := id @f17r26.eq_1
def f17b27 : AQ := (.seq (.region f17r26) f17b25)
theorem uf17b27 (P ts os Q) : awl P f17b27 Q ts os = awl P (.seq (.region f17r26) f17b25) Q ts os := id rfl
def f17b28 : AQ := (.cond (.t 11) .skip f17b27)
theorem uf17b28 (P ts os Q) : awl P f17b28 Q ts os = awl P (.cond (.t 11) .skip f17b27) Q ts os := id rfl
def f17r29 : List AI := [⟨none, (.bin 13 .eql (.t 10) (.v (.k (.c (.int .i64 7)))))⟩, ⟨none, (.mov 11 (.t 13))⟩]
theorem uf17r29 : type_of% @f17r29.eq_1 := id @f17r29.eq_1
def f17b30 : AQ := (.seq (.region f17r29) f17b28)
theorem uf17b30 (P ts os Q) : awl P f17b30 Q ts os = awl P (.seq (.region f17r29) f17b28) Q ts os := id rfl
def f17b31 : AQ := (.cond (.t 11) .skip f17b30)
theorem uf17b31 (P ts os Q) : awl P f17b31 Q ts os = awl P (.cond (.t 11) .skip f17b30) Q ts os := id rfl
def f17r32 : List AI := [⟨none, (.bin 12 .eql (.t 10) (.v (.k (.c (.int .i64 6)))))⟩, ⟨none, (.mov 11 (.t 12))⟩]
theorem uf17r32 : type_of% @f17r32.eq_1 := id @f17r32.eq_1
def f17b33 : AQ := (.seq (.region f17r32) f17b31)
theorem uf17b33 (P ts os Q) : awl P f17b33 Q ts os = awl P (.seq (.region f17r32) f17b31) Q ts os := id rfl
def f17b34 : AQ := (.seq f17b33 f17b5)
theorem uf17b34 (P ts os Q) : awl P f17b34 Q ts os = awl P (.seq f17b33 f17b5) Q ts os := id rfl
def f17b35 : AQ := (.block 0 f17b34)
theorem uf17b35 (P ts os Q) : awl P f17b35 Q ts os = awl P (.block 0 f17b34) Q ts os := id rfl
def f17r36 : List AI := [⟨none, (.mov 10 (.t 0))⟩]
theorem uf17r36 : type_of% @f17r36.eq_1 := id @f17r36.eq_1
def f17b37 : AQ := (.seq (.region f17r36) f17b35)
theorem uf17b37 (P ts os Q) : awl P f17b37 Q ts os = awl P (.seq (.region f17r36) f17b35) Q ts os := id rfl
def f17b38 : AQ := (.seq f17b37 f17b2)
theorem uf17b38 (P ts os Q) : awl P f17b38 Q ts os = awl P (.seq f17b37 f17b2) Q ts os := id rfl
def f17r39 : List AI := [⟨none, (.mov 2 (.v (.k (.c (.int .i64 0)))))⟩, ⟨none, (.mov 3 (.v (.k (.c (.bool false)))))⟩]
theorem uf17r39 : type_of% @f17r39.eq_1 := id @f17r39.eq_1
def f17b40 : AQ := (.seq (.region f17r39) .ret)
theorem uf17b40 (P ts os Q) : awl P f17b40 Q ts os = awl P (.seq (.region f17r39) .ret) Q ts os := id rfl
def f17b41 : AQ := (.cond (.t 9) f17b40 .skip)
theorem uf17b41 (P ts os Q) : awl P f17b41 Q ts os = awl P (.cond (.t 9) f17b40 .skip) Q ts os := id rfl
def f17r42 : List AI := [⟨none, (.mov 4 (.t 0))⟩, ⟨none, (.bin 5 .lss (.t 4) (.v (.k (.c (.int .i64 0)))))⟩, ⟨none, (.mov 6 (.t 5))⟩, ⟨(some (6, false)), (.mov 7 (.t 0))⟩, ⟨(some (6, false)), (.bin 8 .geq (.t 7) (.v (.k (.c (.int .i64 22)))))⟩, ⟨none, (.pick 9 (.t 6) (.v (.k (.c (.bool true)))) (.t 8))⟩]
theorem uf17r42 : type_of% @f17r42.eq_1 := id @f17r42.eq_1
def f17b43 : AQ := (.seq (.region f17r42) f17b41)
theorem uf17b43 (P ts os Q) : awl P f17b43 Q ts os = awl P (.seq (.region f17r42) f17b41) Q ts os := id rfl
def f17b44 : AQ := (.seq f17b43 f17b38)
theorem uf17b44 (P ts os Q) : awl P f17b44 Q ts os = awl P (.seq f17b43 f17b38) Q ts os := id rfl
def f17r45 : List AI := [⟨none, (.mov 2 (.v (.k (.c (.int .i64 0)))))⟩, ⟨none, (.mov 3 (.v (.k (.c (.bool false)))))⟩]
theorem uf17r45 : type_of% @f17r45.eq_1 := id @f17r45.eq_1
def f17b46 : AQ := (.seq (.region f17r45) f17b44)
theorem uf17b46 (P ts os Q) : awl P f17b46 Q ts os = awl P (.seq (.region f17r45) f17b44) Q ts os := id rfl
def f17 : AQ := f17b46
theorem uf17 (P ts os Q) : awl P f17 Q ts os = awl P f17b46 Q ts os := id rfl
theorem hf17 : cFunc Try.prog 17 = some ⟨22, f17.erase, [(RX.t 2), (RX.t 3)]⟩ := by kernel_rfl
theorem okf17 : f17.ok = true := by kernel_rfl
/-! ### function 18 -/
def f18r1 : List AI := [⟨none, (.mov 2 (.v (.k (.c (.int .i64 (-1))))))⟩, ⟨none, (.mov 3 (.v (.k (.c (.int .i64 0)))))⟩]
theorem uf18r1 : type_of% @f18r1.eq_1 := id @f18r1.eq_1
def f18b2 : AQ := (.seq (.region f18r1) .ret)
theorem uf18b2 (P ts os Q) : awl P f18b2 Q ts os = awl P (.seq (.region f18r1) .ret) Q ts os := id rfl
def f18r3 : List AI := [⟨none, (.bin 20 .add (.t 9) (.v (.k (.c (.int .i64 1)))))⟩, ⟨none, (.mov 9 (.t 20))⟩]
theorem uf18r3 : type_of% @f18r3.eq_1 := id @f18r3.eq_1
def f18r4 : List AI := [⟨none, (.mov 18 (.t 4))⟩, ⟨none, (.mov 19 (.t 6))⟩, ⟨none, (.mov 2 (.t 18))⟩, ⟨none, (.mov 3 (.t 19))⟩]
theorem uf18r4 : type_of% @f18r4.eq_1 := id @f18r4.eq_1
def f18b5 : AQ := (.seq (.region f18r4) .ret)
theorem uf18b5 (P ts os Q) : awl P f18b5 Q ts os = awl P (.seq (.region f18r4) .ret) Q ts os := id rfl
def f18b6 : AQ := (.cond (.t 17) f18b5 .skip)
theorem uf18b6 (P ts os Q) : awl P f18b6 Q ts os = awl P (.cond (.t 17) f18b5 .skip) Q ts os := id rfl
def f18r7 : List AI := [⟨none, (.mov 16 (.t 6))⟩, ⟨none, (.bin 17 .neq (.t 16) (.v (.k (.c (.int .i64 0)))))⟩]
theorem uf18r7 : type_of% @f18r7.eq_1 := id @f18r7.eq_1
def f18b8 : AQ := (.seq (.region f18r7) f18b6)
theorem uf18b8 (P ts os Q) : awl P f18b8 Q ts os = awl P (.seq (.region f18r7) f18b6) Q ts os := id rfl
def f18r9 : List AI := [⟨none, (.load 14 4 true (.t 5))⟩, ⟨none, (.call (some 15) 20 [(.t 14)])⟩, ⟨none, (.mov 6 (.t 15))⟩]
theorem uf18r9 : type_of% @f18r9.eq_1 := id @f18r9.eq_1
def f18b10 : AQ := (.seq (.region f18r9) f18b8)
theorem uf18b10 (P ts os Q) : awl P f18b10 Q ts os = awl P (.seq (.region f18r9) f18b8) Q ts os := id rfl
def f18r11 : List AI := [⟨none, (.mov 11 (.t 9))⟩, ⟨none, (.iaddr 12 4 (.t 7) (.t 9))⟩, ⟨none, (.load 13 4 true (.t 12))⟩, ⟨none, (.alloc 5 25 [(.str []), (.bool false), (.list 0 (some true) []), (.list 0 (some true) [])])⟩, ⟨none, (.mov 4 (.t 11))⟩, ⟨none, (.store 4 (.t 5) (.t 13))⟩]
theorem uf18r11 : type_of% @f18r11.eq_1 := id @f18r11.eq_1
def f18b12 : AQ := (.seq (.region f18r11) f18b10)
theorem uf18b12 (P ts os Q) : awl P f18b12 Q ts os = awl P (.seq (.region f18r11) f18b10) Q ts os := id rfl
def f18b13 : AQ := (.block 1 f18b12)
theorem uf18b13 (P ts os Q) : awl P f18b13 Q ts os = awl P (.block 1 f18b12) Q ts os := id rfl
def f18b14 : AQ := (.seq f18b13 (.region f18r3))
theorem uf18b14 (P ts os Q) : awl P f18b14 Q ts os = awl P (.seq f18b13 (.region f18r3)) Q ts os := id rfl
def f18b15 : AQ := (.cond (.t 10) .skip (.exit 0))
theorem uf18b15 (P ts os Q) : awl P f18b15 Q ts os = awl P (.cond (.t 10) .skip (.exit 0)) Q ts os := id rfl
def f18b16 : AQ := (.seq f18b15 f18b14)
theorem uf18b16 (P ts os Q) : awl P f18b16 Q ts os = awl P (.seq f18b15 f18b14) Q ts os := id rfl
def f18r17 : List AI := [⟨none, (.bin 10 .lss (.t 9) (.t 8))⟩]
theorem uf18r17 : type_of% @f18r17.eq_1 := id @f18r17.eq_1
def f18b18 : AQ := (.seq (.region f18r17) f18b16)
theorem uf18b18 (P ts os Q) : awl P f18b18 Q ts os = awl P (.seq (.region f18r17) f18b16) Q ts os := id rfl
def f18l19 : AQ := .loop [7, 8, 9] [] f18b18
theorem uf18l19 (P ts os Q) : awl P f18l19 Q ts os = awl P (.loop [7, 8, 9] [] f18b18) Q ts os := id rfl
def f18b20 : AQ := (.block 0 f18l19)
theorem uf18b20 (P ts os Q) : awl P f18b20 Q ts os = awl P (.block 0 f18l19) Q ts os := id rfl
def f18r21 : List AI := [⟨none, (.mov 7 (.t 0))⟩, ⟨none, (.len 8 (.t 7))⟩, ⟨none, (.mov 9 (.v (.k (.c (.int .i64 0)))))⟩]
theorem uf18r21 : type_of% @f18r21.eq_1 := id @f18r21.eq_1
def f18b22 : AQ := (.seq (.region f18r21) f18b20)
theorem uf18b22 (P ts os Q) : awl P f18b22 Q ts os = awl P (.seq (.region f18r21) f18b20) Q ts os := id rfl
def f18b23 : AQ := (.seq f18b22 f18b2)
theorem uf18b23 (P ts os Q) : awl P f18b23 Q ts os = awl P (.seq f18b22 f18b2) Q ts os := id rfl
def f18r24 : List AI := [⟨none, (.mov 2 (.v (.k (.c (.int .i64 0)))))⟩, ⟨none, (.mov 3 (.v (.k (.c (.int .i64 0)))))⟩]
theorem uf18r24 : type_of% @f18r24.eq_1 := id @f18r24.eq_1
def f18b25 : AQ := (.seq (.region f18r24) f18b23)
theorem uf18b25 (P ts os Q) : awl P f18b25 Q ts os = awl P (.seq (.region f18r24) f18b23) Q ts os := id rfl
def f18 : AQ := f18b25
theorem uf18 (P ts os Q) : awl P f18 Q ts os = awl P f18b25 Q ts os := id rfl
theorem hf18 : cFunc Try.prog 18 = some ⟨21, f18.erase, [(RX.t 2), (RX.t 3)]⟩ := by kernel_rfl
theorem okf18 : f18.ok = true := by kernel_rfl
/-! ### function 19 -/
def f19r1 : List AI := [⟨none, (.mov 2 (.v (.k (.c (.int .i64 (-1))))))⟩, ⟨none, (.mov 3 (.v (.k (.c (.int .i64 0)))))⟩]
theorem uf19r1 : type_of% @f19r1.eq_1 := id @f19r1.eq_1
def f19b2 : AQ := (.seq (.region f19r1) .ret)
theorem uf19b2 (P ts os Q) : awl P f19b2 Q ts os = awl P (.seq (.region f19r1) .ret) Q ts os := id rfl
def f19r3 : List AI := [⟨none, (.mov 10 (.t 4))⟩, ⟨none, (.bin 11 .add (.t 10) (.v (.k (.c (.int .i64 1)))))⟩, ⟨none, (.mov 4 (.t 11))⟩]
theorem uf19r3 : type_of% @f19r3.eq_1 := id @f19r3.eq_1
def f19r4 : List AI := [⟨none, (.mov 19 (.t 4))⟩, ⟨none, (.mov 20 (.t 5))⟩, ⟨none, (.mov 2 (.t 19))⟩, ⟨none, (.mov 3 (.t 20))⟩]
theorem uf19r4 : type_of% @f19r4.eq_1 := id @f19r4.eq_1
def f19b5 : AQ := (.seq (.region f19r4) .ret)
theorem uf19b5 (P ts os Q) : awl P f19b5 Q ts os = awl P (.seq (.region f19r4) .ret) Q ts os := id rfl
def f19b6 : AQ := (.cond (.t 18) f19b5 .skip)
theorem uf19b6 (P ts os Q) : awl P f19b6 Q ts os = awl P (.cond (.t 18) f19b5 .skip) Q ts os := id rfl
def f19r7 : List AI := [⟨none, (.mov 17 (.t 5))⟩, ⟨none, (.bin 18 .neq (.t 17) (.v (.k (.c (.int .i64 0)))))⟩]
theorem uf19r7 : type_of% @f19r7.eq_1 := id @f19r7.eq_1
def f19b8 : AQ := (.seq (.region f19r7) f19b6)
theorem uf19b8 (P ts os Q) : awl P f19b8 Q ts os = awl P (.seq (.region f19r7) f19b6) Q ts os := id rfl
def f19r9 : List AI := [⟨none, (.mov 12 (.t 0))⟩, ⟨none, (.mov 13 (.t 4))⟩, ⟨none, (.iaddr 14 4 (.t 12) (.t 13))⟩, ⟨none, (.load 15 4 true (.t 14))⟩, ⟨none, (.call (some 16) 21 [(.t 15)])⟩, ⟨none, (.mov 5 (.t 16))⟩]
theorem uf19r9 : type_of% @f19r9.eq_1 := id @f19r9.eq_1
def f19b10 : AQ := (.seq (.region f19r9) f19b8)
theorem uf19b10 (P ts os Q) : awl P f19b10 Q ts os = awl P (.seq (.region f19r9) f19b8) Q ts os := id rfl
def f19b11 : AQ := (.block 1 f19b10)
theorem uf19b11 (P ts os Q) : awl P f19b11 Q ts os = awl P (.block 1 f19b10) Q ts os := id rfl
def f19b12 : AQ := (.seq f19b11 (.region f19r3))
theorem uf19b12 (P ts os Q) : awl P f19b12 Q ts os = awl P (.seq f19b11 (.region f19r3)) Q ts os := id rfl
def f19b13 : AQ := (.cond (.t 9) .skip (.exit 0))
theorem uf19b13 (P ts os Q) : awl P f19b13 Q ts os = awl P (.cond (.t 9) .skip (.exit 0)) Q ts os := id rfl
def f19r14 : List AI := [⟨none, (.mov 6 (.t 4))⟩, ⟨none, (.mov 7 (.t 0))⟩, ⟨none, (.len 8 (.t 7))⟩, ⟨none, (.bin 9 .lss (.t 6) (.t 8))⟩]
theorem uf19r14 : type_of% @f19r14.eq_1 := id @f19r14.eq_1
def f19b15 : AQ := (.seq (.region f19r14) f19b13)
theorem uf19b15 (P ts os Q) : awl P f19b15 Q ts os = awl P (.seq (.region f19r14) f19b13) Q ts os := id rfl
def f19b16 : AQ := (.seq f19b15 f19b12)
theorem uf19b16 (P ts os Q) : awl P f19b16 Q ts os = awl P (.seq f19b15 f19b12) Q ts os := id rfl
def f19l17 : AQ := .loop [0, 4] [] f19b16
theorem uf19l17 (P ts os Q) : awl P f19l17 Q ts os = awl P (.loop [0, 4] [] f19b16) Q ts os := id rfl
def f19b18 : AQ := (.block 0 f19l17)
theorem uf19b18 (P ts os Q) : awl P f19b18 Q ts os = awl P (.block 0 f19l17) Q ts os := id rfl
def f19r19 : List AI := [⟨none, (.mov 4 (.v (.k (.c (.int .i64 0)))))⟩]
theorem uf19r19 : type_of% @f19r19.eq_1 := id @f19r19.eq_1
def f19b20 : AQ := (.seq (.region f19r19) f19b18)
theorem uf19b20 (P ts os Q) : awl P f19b20 Q ts os = awl P (.seq (.region f19r19) f19b18) Q ts os := id rfl
def f19b21 : AQ := (.seq f19b20 f19b2)
theorem uf19b21 (P ts os Q) : awl P f19b21 Q ts os = awl P (.seq f19b20 f19b2) Q ts os := id rfl
def f19r22 : List AI := [⟨none, (.mov 2 (.v (.k (.c (.int .i64 0)))))⟩, ⟨none, (.mov 3 (.v (.k (.c (.int .i64 0)))))⟩]
theorem uf19r22 : type_of% @f19r22.eq_1 := id @f19r22.eq_1
def f19b23 : AQ := (.seq (.region f19r22) f19b21)
theorem uf19b23 (P ts os Q) : awl P f19b23 Q ts os = awl P (.seq (.region f19r22) f19b21) Q ts os := id rfl
def f19 : AQ := f19b23
theorem uf19 (P ts os Q) : awl P f19 Q ts os = awl P f19b23 Q ts os := id rfl
theorem hf19 : cFunc Try.prog 19 = some ⟨21, f19.erase, [(RX.t 2), (RX.t 3)]⟩ := by kernel_rfl
theorem okf19 : f19.ok = true := by kernel_rfl
/-! ### function 20 -/
def f20r1 : List AI := [⟨none, (.mov 2 (.v (.k (.c (.int .i64 0)))))⟩]
theorem uf20r1 : type_of% @f20r1.eq_1 := id @f20r1.eq_1
def f20b2 : AQ := (.seq (.region f20r1) .ret)
theorem uf20b2 (P ts os Q) : awl P f20b2 Q ts os = awl P (.seq (.region f20r1) .ret) Q ts os := id rfl
def f20r3 : List AI := [⟨none, (.bin 76 .add (.t 57) (.v (.k (.c (.int .i64 1)))))⟩, ⟨none, (.mov 57 (.t 76))⟩]
theorem uf20r3 : type_of% @f20r3.eq_1 := id @f20r3.eq_1
def f20r4 : List AI := [⟨none, (.mov 2 (.v (.k (.c (.int .i64 11)))))⟩]
theorem uf20r4 : type_of% @f20r4.eq_1 := id @f20r4.eq_1
def f20b5 : AQ := (.seq (.region f20r4) .ret)
theorem uf20b5 (P ts os Q) : awl P f20b5 Q ts os = awl P (.seq (.region f20r4) .ret) Q ts os := id rfl
def f20b6 : AQ := (.cond (.t 75) f20b5 .skip)
theorem uf20b6 (P ts os Q) : awl P f20b6 Q ts os = awl P (.cond (.t 75) f20b5 .skip) Q ts os := id rfl
def f20r7 : List AI := [⟨none, (.mov 70 (.t 11))⟩, ⟨none, (.faddr 71 0 (.t 10))⟩, ⟨none, (.load 72 1 false (.t 71))⟩, ⟨none, (.iaddrA 73 1 22 (.t 8) (.t 72))⟩, ⟨none, (.load 74 1 false (.t 73))⟩, ⟨none, (.bin 75 .neq (.t 70) (.t 74))⟩]
theorem uf20r7 : type_of% @f20r7.eq_1 := id @f20r7.eq_1
def f20b8 : AQ := (.seq (.region f20r7) f20b6)
theorem uf20b8 (P ts os Q) : awl P f20b8 Q ts os = awl P (.seq (.region f20r7) f20b6) Q ts os := id rfl
def f20r9 : List AI := [⟨none, (.mov 69 (.t 12))⟩, ⟨none, (.mov 2 (.t 69))⟩]
theorem uf20r9 : type_of% @f20r9.eq_1 := id @f20r9.eq_1
def f20b10 : AQ := (.seq (.region f20r9) .ret)
theorem uf20b10 (P ts os Q) : awl P f20b10 Q ts os = awl P (.seq (.region f20r9) .ret) Q ts os := id rfl
def f20b11 : AQ := (.cond (.t 68) f20b10 .skip)
theorem uf20b11 (P ts os Q) : awl P f20b11 Q ts os = awl P (.cond (.t 68) f20b10 .skip) Q ts os := id rfl
def f20r12 : List AI := [⟨none, (.mov 67 (.t 12))⟩, ⟨none, (.bin 68 .neq (.t 67) (.v (.k (.c (.int .i64 0)))))⟩]
theorem uf20r12 : type_of% @f20r12.eq_1 := id @f20r12.eq_1
def f20b13 : AQ := (.seq (.region f20r12) f20b11)
theorem uf20b13 (P ts os Q) : awl P f20b13 Q ts os = awl P (.seq (.region f20r12) f20b11) Q ts os := id rfl
def f20b14 : AQ := (.seq f20b13 f20b8)
theorem uf20b14 (P ts os Q) : awl P f20b14 Q ts os = awl P (.seq f20b13 f20b8) Q ts os := id rfl
def f20r15 : List AI := [⟨none, (.faddr 62 1 (.t 10))⟩, ⟨none, (.load 63 3 true (.t 62))⟩, ⟨none, (.call (some 64) 31 [(.t 63)])⟩, ⟨none, (.mov 61 (.t 64))⟩, ⟨none, (.extr 65 (.t 61) 0)⟩, ⟨none, (.extr 66 (.t 61) 1)⟩, ⟨none, (.mov 11 (.t 65))⟩, ⟨none, (.mov 12 (.t 66))⟩]
theorem uf20r15 : type_of% @f20r15.eq_1 := id @f20r15.eq_1
def f20b16 : AQ := (.seq (.region f20r15) f20b14)
theorem uf20b16 (P ts os Q) : awl P f20b16 Q ts os = awl P (.seq (.region f20r15) f20b14) Q ts os := id rfl
def f20r17 : List AI := [⟨none, (.iaddr 59 4 (.t 55) (.t 57))⟩, ⟨none, (.load 60 4 true (.t 59))⟩, ⟨none, (.alloc 10 43 [(.int .i64 0), (.int .i64 0), (.int .i64 0), (.list 0 (some true) [])])⟩, ⟨none, (.store 4 (.t 10) (.t 60))⟩]
theorem uf20r17 : type_of% @f20r17.eq_1 := id @f20r17.eq_1
def f20b18 : AQ := (.seq (.region f20r17) f20b16)
theorem uf20b18 (P ts os Q) : awl P f20b18 Q ts os = awl P (.seq (.region f20r17) f20b16) Q ts os := id rfl
def f20b19 : AQ := (.block 5 f20b18)
theorem uf20b19 (P ts os Q) : awl P f20b19 Q ts os = awl P (.block 5 f20b18) Q ts os := id rfl
def f20b20 : AQ := (.seq f20b19 (.region f20r3))
theorem uf20b20 (P ts os Q) : awl P f20b20 Q ts os = awl P (.seq f20b19 (.region f20r3)) Q ts os := id rfl
def f20b21 : AQ := (.cond (.t 58) .skip (.exit 4))
theorem uf20b21 (P ts os Q) : awl P f20b21 Q ts os = awl P (.cond (.t 58) .skip (.exit 4)) Q ts os := id rfl
def f20b22 : AQ := (.seq f20b21 f20b20)
theorem uf20b22 (P ts os Q) : awl P f20b22 Q ts os = awl P (.seq f20b21 f20b20) Q ts os := id rfl
def f20r23 : List AI := [⟨none, (.bin 58 .lss (.t 57) (.t 56))⟩]
theorem uf20r23 : type_of% @f20r23.eq_1 := id @f20r23.eq_1
def f20b24 : AQ := (.seq (.region f20r23) f20b22)
theorem uf20b24 (P ts os Q) : awl P f20b24 Q ts os = awl P (.seq (.region f20r23) f20b22) Q ts os := id rfl
def f20l25 : AQ := .loop [8, 55, 56, 57] [8, 53, 54000, 54001, 54002] f20b24
theorem uf20l25 (P ts os Q) : awl P f20l25 Q ts os = awl P (.loop [8, 55, 56, 57] [8, 53, 54000, 54001, 54002] f20b24) Q ts os := id rfl
def f20b26 : AQ := (.block 4 f20l25)
theorem uf20b26 (P ts os Q) : awl P f20b26 Q ts os = awl P (.block 4 f20l25) Q ts os := id rfl
def f20r27 : List AI := [⟨none, (.faddr 54 3 (.t 1))⟩, ⟨none, (.load 55 1 false (.t 54))⟩, ⟨none, (.len 56 (.t 55))⟩, ⟨none, (.mov 57 (.v (.k (.c (.int .i64 0)))))⟩]
theorem uf20r27 : type_of% @f20r27.eq_1 := id @f20r27.eq_1
def f20b28 : AQ := (.seq (.region f20r27) f20b26)
theorem uf20b28 (P ts os Q) : awl P f20b28 Q ts os = awl P (.seq (.region f20r27) f20b26) Q ts os := id rfl
def f20b29 : AQ := (.seq f20b28 f20b2)
theorem uf20b29 (P ts os Q) : awl P f20b29 Q ts os = awl P (.seq f20b28 f20b2) Q ts os := id rfl
def f20r30 : List AI := [⟨none, (.call (some 53) 44 [])⟩, ⟨none, (.alloc 8 65 [(.int .i64 0), (.int .i64 0), (.int .i64 0), (.int .i64 0), (.int .i64 0), (.int .i64 0), (.int .i64 0), (.int .i64 0), (.int .i64 0), (.int .i64 0), (.int .i64 0), (.int .i64 0), (.int .i64 0), (.int .i64 0), (.int .i64 0), (.int .i64 0), (.int .i64 0), (.int .i64 0), (.int .i64 0), (.int .i64 0), (.int .i64 0), (.int .i64 0)])⟩, ⟨none, (.store 22 (.t 8) (.t 53))⟩]
theorem uf20r30 : type_of% @f20r30.eq_1 := id @f20r30.eq_1
def f20b31 : AQ := (.seq (.region f20r30) f20b29)
theorem uf20b31 (P ts os Q) : awl P f20b31 Q ts os = awl P (.seq (.region f20r30) f20b29) Q ts os := id rfl
def f20r32 : List AI := [⟨none, (.bin 52 .add (.t 41) (.v (.k (.c (.int .i64 1)))))⟩, ⟨none, (.mov 41 (.t 52))⟩]
theorem uf20r32 : type_of% @f20r32.eq_1 := id @f20r32.eq_1
def f20r33 : List AI := [⟨none, (.faddr 50 0 (.t 7))⟩, ⟨none, (.load 51 1 false (.t 50))⟩, ⟨none, (.mov 3 (.t 51))⟩]
theorem uf20r33 : type_of% @f20r33.eq_1 := id @f20r33.eq_1
def f20r34 : List AI := [⟨none, (.mov 2 (.v (.k (.c (.int .i64 1)))))⟩]
theorem uf20r34 : type_of% @f20r34.eq_1 := id @f20r34.eq_1
def f20b35 : AQ := (.seq (.region f20r34) .ret)
theorem uf20b35 (P ts os Q) : awl P f20b35 Q ts os = awl P (.seq (.region f20r34) .ret) Q ts os := id rfl
def f20b36 : AQ := (.cond (.t 49) f20b35 .skip)
theorem uf20b36 (P ts os Q) : awl P f20b36 Q ts os = awl P (.cond (.t 49) f20b35 .skip) Q ts os := id rfl
def f20r37 : List AI := [⟨none, (.mov 45 (.t 3))⟩, ⟨none, (.faddr 46 0 (.t 7))⟩, ⟨none, (.load 47 1 false (.t 46))⟩, ⟨none, (.call (some 48) 45 [(.t 45), (.t 47)])⟩, ⟨none, (.un 49 .not (.t 48))⟩]
theorem uf20r37 : type_of% @f20r37.eq_1 := id @f20r37.eq_1
def f20b38 : AQ := (.seq (.region f20r37) f20b36)
theorem uf20b38 (P ts os Q) : awl P f20b38 Q ts os = awl P (.seq (.region f20r37) f20b36) Q ts os := id rfl
def f20b39 : AQ := (.seq f20b38 (.region f20r33))
theorem uf20b39 (P ts os Q) : awl P f20b39 Q ts os = awl P (.seq f20b38 (.region f20r33)) Q ts os := id rfl
def f20r40 : List AI := [⟨none, (.iaddr 43 4 (.t 39) (.t 41))⟩, ⟨none, (.load 44 4 true (.t 43))⟩, ⟨none, (.alloc 7 43 [(.int .i64 0), (.int .i64 0), (.int .i64 0), (.list 0 (some true) [])])⟩, ⟨none, (.store 4 (.t 7) (.t 44))⟩]
theorem uf20r40 : type_of% @f20r40.eq_1 := id @f20r40.eq_1
def f20b41 : AQ := (.seq (.region f20r40) f20b39)
theorem uf20b41 (P ts os Q) : awl P f20b41 Q ts os = awl P (.seq (.region f20r40) f20b39) Q ts os := id rfl
def f20b42 : AQ := (.block 3 f20b41)
theorem uf20b42 (P ts os Q) : awl P f20b42 Q ts os = awl P (.block 3 f20b41) Q ts os := id rfl
def f20b43 : AQ := (.seq f20b42 (.region f20r32))
theorem uf20b43 (P ts os Q) : awl P f20b43 Q ts os = awl P (.seq f20b42 (.region f20r32)) Q ts os := id rfl
def f20b44 : AQ := (.cond (.t 42) .skip (.exit 2))
theorem uf20b44 (P ts os Q) : awl P f20b44 Q ts os = awl P (.cond (.t 42) .skip (.exit 2)) Q ts os := id rfl
def f20b45 : AQ := (.seq f20b44 f20b43)
theorem uf20b45 (P ts os Q) : awl P f20b45 Q ts os = awl P (.seq f20b44 f20b43) Q ts os := id rfl
def f20r46 : List AI := [⟨none, (.bin 42 .lss (.t 41) (.t 40))⟩]
theorem uf20r46 : type_of% @f20r46.eq_1 := id @f20r46.eq_1
def f20b47 : AQ := (.seq (.region f20r46) f20b45)
theorem uf20b47 (P ts os Q) : awl P f20b47 Q ts os = awl P (.seq (.region f20r46) f20b45) Q ts os := id rfl
def f20l48 : AQ := .loop [1, 3, 39, 40, 41] [1] f20b47
theorem uf20l48 (P ts os Q) : awl P f20l48 Q ts os = awl P (.loop [1, 3, 39, 40, 41] [1] f20b47) Q ts os := id rfl
def f20b49 : AQ := (.block 2 f20l48)
theorem uf20b49 (P ts os Q) : awl P f20b49 Q ts os = awl P (.block 2 f20l48) Q ts os := id rfl
def f20r50 : List AI := [⟨none, (.faddr 38 3 (.t 1))⟩, ⟨none, (.load 39 1 false (.t 38))⟩, ⟨none, (.len 40 (.t 39))⟩, ⟨none, (.mov 41 (.v (.k (.c (.int .i64 0)))))⟩]
theorem uf20r50 : type_of% @f20r50.eq_1 := id @f20r50.eq_1
def f20b51 : AQ := (.seq (.region f20r50) f20b49)
theorem uf20b51 (P ts os Q) : awl P f20b51 Q ts os = awl P (.seq (.region f20r50) f20b49) Q ts os := id rfl
def f20b52 : AQ := (.seq f20b51 f20b31)
theorem uf20b52 (P ts os Q) : awl P f20b52 Q ts os = awl P (.seq f20b51 f20b31) Q ts os := id rfl
def f20r53 : List AI := [⟨none, (.mov 3 (.v (.k (.c (.int .i64 (-1))))))⟩]
theorem uf20r53 : type_of% @f20r53.eq_1 := id @f20r53.eq_1
def f20b54 : AQ := (.seq (.region f20r53) f20b52)
theorem uf20b54 (P ts os Q) : awl P f20b54 Q ts os = awl P (.seq (.region f20r53) f20b52) Q ts os := id rfl
def f20r55 : List AI := [⟨none, (.bin 37 .add (.t 16) (.v (.k (.c (.int .i64 1)))))⟩, ⟨none, (.mov 16 (.t 37))⟩]
theorem uf20r55 : type_of% @f20r55.eq_1 := id @f20r55.eq_1
def f20r56 : List AI := [⟨none, (.faddr 35 0 (.t 5))⟩, ⟨none, (.load 36 1 false (.t 35))⟩, ⟨none, (.mov 3 (.t 36))⟩]
theorem uf20r56 : type_of% @f20r56.eq_1 := id @f20r56.eq_1
def f20r57 : List AI := [⟨none, (.mov 2 (.v (.k (.c (.int .i64 1)))))⟩]
theorem uf20r57 : type_of% @f20r57.eq_1 := id @f20r57.eq_1
def f20b58 : AQ := (.seq (.region f20r57) .ret)
theorem uf20b58 (P ts os Q) : awl P f20b58 Q ts os = awl P (.seq (.region f20r57) .ret) Q ts os := id rfl
def f20b59 : AQ := (.cond (.t 34) f20b58 .skip)
theorem uf20b59 (P ts os Q) : awl P f20b59 Q ts os = awl P (.cond (.t 34) f20b58 .skip) Q ts os := id rfl
def f20r60 : List AI := [⟨none, (.mov 20 (.t 3))⟩, ⟨none, (.faddr 21 0 (.t 5))⟩, ⟨none, (.load 22 1 false (.t 21))⟩, ⟨none, (.call (some 23) 45 [(.t 20), (.t 22)])⟩, ⟨none, (.un 24 .not (.t 23))⟩, ⟨none, (.mov 25 (.t 24))⟩, ⟨(some (25, false)), (.faddr 26 1 (.t 5))⟩, ⟨(some (25, false)), (.load 27 1 false (.t 26))⟩, ⟨(some (25, false)), (.bin 28 .lss (.t 27) (.v (.k (.c (.int .i64 0)))))⟩, ⟨none, (.pick 29 (.t 25) (.v (.k (.c (.bool true)))) (.t 28))⟩, ⟨none, (.mov 30 (.t 29))⟩, ⟨(some (30, false)), (.faddr 31 1 (.t 5))⟩, ⟨(some (30, false)), (.load 32 1 false (.t 31))⟩, ⟨(some (30, false)), (.bin 33 .geq (.t 32) (.v (.k (.c (.int .i64 5)))))⟩, ⟨none, (.pick 34 (.t 30) (.v (.k (.c (.bool true)))) (.t 33))⟩]
theorem uf20r60 : type_of% @f20r60.eq_1 := id @f20r60.eq_1
def f20b61 : AQ := (.seq (.region f20r60) f20b59)
theorem uf20b61 (P ts os Q) : awl P f20b61 Q ts os = awl P (.seq (.region f20r60) f20b59) Q ts os := id rfl
def f20b62 : AQ := (.seq f20b61 (.region f20r56))
theorem uf20b62 (P ts os Q) : awl P f20b62 Q ts os = awl P (.seq f20b61 (.region f20r56)) Q ts os := id rfl
def f20r63 : List AI := [⟨none, (.iaddr 18 3 (.t 14) (.t 16))⟩, ⟨none, (.load 19 3 true (.t 18))⟩, ⟨none, (.alloc 5 45 [(.int .i64 0), (.int .i64 0), (.bool false)])⟩, ⟨none, (.store 3 (.t 5) (.t 19))⟩]
theorem uf20r63 : type_of% @f20r63.eq_1 := id @f20r63.eq_1
def f20b64 : AQ := (.seq (.region f20r63) f20b62)
theorem uf20b64 (P ts os Q) : awl P f20b64 Q ts os = awl P (.seq (.region f20r63) f20b62) Q ts os := id rfl
def f20b65 : AQ := (.block 1 f20b64)
theorem uf20b65 (P ts os Q) : awl P f20b65 Q ts os = awl P (.block 1 f20b64) Q ts os := id rfl
def f20b66 : AQ := (.seq f20b65 (.region f20r55))
theorem uf20b66 (P ts os Q) : awl P f20b66 Q ts os = awl P (.seq f20b65 (.region f20r55)) Q ts os := id rfl
def f20b67 : AQ := (.cond (.t 17) .skip (.exit 0))
theorem uf20b67 (P ts os Q) : awl P f20b67 Q ts os = awl P (.cond (.t 17) .skip (.exit 0)) Q ts os := id rfl
def f20b68 : AQ := (.seq f20b67 f20b66)
theorem uf20b68 (P ts os Q) : awl P f20b68 Q ts os = awl P (.seq f20b67 f20b66) Q ts os := id rfl
def f20r69 : List AI := [⟨none, (.bin 17 .lss (.t 16) (.t 15))⟩]
theorem uf20r69 : type_of% @f20r69.eq_1 := id @f20r69.eq_1
def f20b70 : AQ := (.seq (.region f20r69) f20b68)
theorem uf20b70 (P ts os Q) : awl P f20b70 Q ts os = awl P (.seq (.region f20r69) f20b68) Q ts os := id rfl
def f20l71 : AQ := .loop [1, 3, 14, 15, 16] [1] f20b70
theorem uf20l71 (P ts os Q) : awl P f20l71 Q ts os = awl P (.loop [1, 3, 14, 15, 16] [1] f20b70) Q ts os := id rfl
def f20b72 : AQ := (.block 0 f20l71)
theorem uf20b72 (P ts os Q) : awl P f20b72 Q ts os = awl P (.block 0 f20l71) Q ts os := id rfl
def f20r73 : List AI := [⟨none, (.faddr 13 2 (.t 1))⟩, ⟨none, (.load 14 1 false (.t 13))⟩, ⟨none, (.len 15 (.t 14))⟩, ⟨none, (.mov 16 (.v (.k (.c (.int .i64 0)))))⟩]
theorem uf20r73 : type_of% @f20r73.eq_1 := id @f20r73.eq_1
def f20b74 : AQ := (.seq (.region f20r73) f20b72)
theorem uf20b74 (P ts os Q) : awl P f20b74 Q ts os = awl P (.seq (.region f20r73) f20b72) Q ts os := id rfl
def f20b75 : AQ := (.seq f20b74 f20b54)
theorem uf20b75 (P ts os Q) : awl P f20b75 Q ts os = awl P (.seq f20b74 f20b54) Q ts os := id rfl
def f20r76 : List AI := [⟨none, (.mov 3 (.v (.k (.c (.int .i64 (-1))))))⟩]
theorem uf20r76 : type_of% @f20r76.eq_1 := id @f20r76.eq_1
def f20b77 : AQ := (.seq (.region f20r76) f20b75)
theorem uf20b77 (P ts os Q) : awl P f20b77 Q ts os = awl P (.seq (.region f20r76) f20b75) Q ts os := id rfl
def f20r78 : List AI := [⟨none, (.box 1 25 (.t 0))⟩, ⟨none, (.mov 2 (.v (.k (.c (.int .i64 0)))))⟩]
theorem uf20r78 : type_of% @f20r78.eq_1 := id @f20r78.eq_1
def f20b79 : AQ := (.seq (.region f20r78) f20b77)
theorem uf20b79 (P ts os Q) : awl P f20b79 Q ts os = awl P (.seq (.region f20r78) f20b77) Q ts os := id rfl
def f20 : AQ := f20b79
theorem uf20 (P ts os Q) : awl P f20 Q ts os = awl P f20b79 Q ts os := id rfl
theorem hf20 : cFunc Try.prog 20 = some ⟨77, f20.erase, [(RX.t 2)]⟩ := by kernel_rfl
theorem okf20 : f20.ok = true := by kernel_rfl
/-! ### function 21 -/
def f21r1 : List AI := [⟨none, (.mov 2 (.v (.k (.c (.int .i64 0)))))⟩]
theorem uf21r1 : type_of% @f21r1.eq_1 := id @f21r1.eq_1
def f21b2 : AQ := (.seq (.region f21r1) .ret)
theorem uf21b2 (P ts os Q) : awl P f21b2 Q ts os = awl P (.seq (.region f21r1) .ret) Q ts os := id rfl
def f21r3 : List AI := [⟨none, (.mov 97 (.t 7))⟩, ⟨none, (.bin 98 .add (.t 97) (.v (.k (.c (.int .i64 1)))))⟩, ⟨none, (.mov 7 (.t 98))⟩]
theorem uf21r3 : type_of% @f21r3.eq_1 := id @f21r3.eq_1
def f21r4 : List AI := [⟨none, (.mov 2 (.v (.k (.c (.int .i64 11)))))⟩]
theorem uf21r4 : type_of% @f21r4.eq_1 := id @f21r4.eq_1
def f21b5 : AQ := (.seq (.region f21r4) .ret)
theorem uf21b5 (P ts os Q) : awl P f21b5 Q ts os = awl P (.seq (.region f21r4) .ret) Q ts os := id rfl
def f21b6 : AQ := (.cond (.t 124) f21b5 .skip)
theorem uf21b6 (P ts os Q) : awl P f21b6 Q ts os = awl P (.cond (.t 124) f21b5 .skip) Q ts os := id rfl
def f21r7 : List AI := [⟨none, (.mov 122 (.t 8))⟩, ⟨none, (.mov 123 (.t 10))⟩, ⟨none, (.bin 124 .neq (.t 122) (.t 123))⟩]
theorem uf21r7 : type_of% @f21r7.eq_1 := id @f21r7.eq_1
def f21b8 : AQ := (.seq (.region f21r7) f21b6)
theorem uf21b8 (P ts os Q) : awl P f21b8 Q ts os = awl P (.seq (.region f21r7) f21b6) Q ts os := id rfl
def f21r9 : List AI := [⟨none, (.faddr 113 3 (.t 1))⟩, ⟨none, (.load 114 1 false (.t 113))⟩, ⟨none, (.mov 115 (.t 7))⟩, ⟨none, (.iaddr 116 4 (.t 114) (.t 115))⟩, ⟨none, (.faddr 117 0 (.t 116))⟩, ⟨none, (.load 118 1 false (.t 117))⟩, ⟨none, (.call (some 119) 17 [(.t 118)])⟩, ⟨none, (.mov 112 (.t 119))⟩, ⟨none, (.extr 120 (.t 112) 0)⟩, ⟨none, (.extr 121 (.t 112) 1)⟩, ⟨none, (.mov 10 (.t 120))⟩, ⟨none, (.mov 11 (.t 121))⟩]
theorem uf21r9 : type_of% @f21r9.eq_1 := id @f21r9.eq_1
def f21b10 : AQ := (.seq (.region f21r9) f21b8)
theorem uf21b10 (P ts os Q) : awl P f21b10 Q ts os = awl P (.seq (.region f21r9) f21b8) Q ts os := id rfl
def f21r11 : List AI := [⟨none, (.mov 111 (.t 9))⟩, ⟨none, (.mov 2 (.t 111))⟩]
theorem uf21r11 : type_of% @f21r11.eq_1 := id @f21r11.eq_1
def f21b12 : AQ := (.seq (.region f21r11) .ret)
theorem uf21b12 (P ts os Q) : awl P f21b12 Q ts os = awl P (.seq (.region f21r11) .ret) Q ts os := id rfl
def f21b13 : AQ := (.cond (.t 110) f21b12 .skip)
theorem uf21b13 (P ts os Q) : awl P f21b13 Q ts os = awl P (.cond (.t 110) f21b12 .skip) Q ts os := id rfl
def f21r14 : List AI := [⟨none, (.mov 109 (.t 9))⟩, ⟨none, (.bin 110 .neq (.t 109) (.v (.k (.c (.int .i64 0)))))⟩]
theorem uf21r14 : type_of% @f21r14.eq_1 := id @f21r14.eq_1
def f21b15 : AQ := (.seq (.region f21r14) f21b13)
theorem uf21b15 (P ts os Q) : awl P f21b15 Q ts os = awl P (.seq (.region f21r14) f21b13) Q ts os := id rfl
def f21b16 : AQ := (.seq f21b15 f21b10)
theorem uf21b16 (P ts os Q) : awl P f21b16 Q ts os = awl P (.seq f21b15 f21b10) Q ts os := id rfl
def f21r17 : List AI := [⟨none, (.faddr 100 3 (.t 1))⟩, ⟨none, (.load 101 1 false (.t 100))⟩, ⟨none, (.mov 102 (.t 7))⟩, ⟨none, (.iaddr 103 4 (.t 101) (.t 102))⟩, ⟨none, (.faddr 104 1 (.t 103))⟩, ⟨none, (.load 105 3 true (.t 104))⟩, ⟨none, (.call (some 106) 32 [(.t 105)])⟩, ⟨none, (.mov 99 (.t 106))⟩, ⟨none, (.extr 107 (.t 99) 0)⟩, ⟨none, (.extr 108 (.t 99) 1)⟩, ⟨none, (.mov 8 (.t 107))⟩, ⟨none, (.mov 9 (.t 108))⟩]
theorem uf21r17 : type_of% @f21r17.eq_1 := id @f21r17.eq_1
def f21b18 : AQ := (.seq (.region f21r17) f21b16)
theorem uf21b18 (P ts os Q) : awl P f21b18 Q ts os = awl P (.seq (.region f21r17) f21b16) Q ts os := id rfl
def f21b19 : AQ := (.block 5 f21b18)
theorem uf21b19 (P ts os Q) : awl P f21b19 Q ts os = awl P (.block 5 f21b18) Q ts os := id rfl
def f21b20 : AQ := (.seq f21b19 (.region f21r3))
theorem uf21b20 (P ts os Q) : awl P f21b20 Q ts os = awl P (.seq f21b19 (.region f21r3)) Q ts os := id rfl
def f21b21 : AQ := (.cond (.t 96) .skip (.exit 4))
theorem uf21b21 (P ts os Q) : awl P f21b21 Q ts os = awl P (.cond (.t 96) .skip (.exit 4)) Q ts os := id rfl
def f21r22 : List AI := [⟨none, (.mov 92 (.t 7))⟩, ⟨none, (.faddr 93 3 (.t 1))⟩, ⟨none, (.load 94 1 false (.t 93))⟩, ⟨none, (.len 95 (.t 94))⟩, ⟨none, (.bin 96 .lss (.t 92) (.t 95))⟩]
theorem uf21r22 : type_of% @f21r22.eq_1 := id @f21r22.eq_1
def f21b23 : AQ := (.seq (.region f21r22) f21b21)
theorem uf21b23 (P ts os Q) : awl P f21b23 Q ts os = awl P (.seq (.region f21r22) f21b21) Q ts os := id rfl
def f21b24 : AQ := (.seq f21b23 f21b20)
theorem uf21b24 (P ts os Q) : awl P f21b24 Q ts os = awl P (.seq f21b23 f21b20) Q ts os := id rfl
def f21l25 : AQ := .loop [1, 7] [1] f21b24
theorem uf21l25 (P ts os Q) : awl P f21l25 Q ts os = awl P (.loop [1, 7] [1] f21b24) Q ts os := id rfl
def f21b26 : AQ := (.block 4 f21l25)
theorem uf21b26 (P ts os Q) : awl P f21b26 Q ts os = awl P (.block 4 f21l25) Q ts os := id rfl
def f21r27 : List AI := [⟨none, (.mov 7 (.v (.k (.c (.int .i64 0)))))⟩]
theorem uf21r27 : type_of% @f21r27.eq_1 := id @f21r27.eq_1
def f21b28 : AQ := (.seq (.region f21r27) f21b26)
theorem uf21b28 (P ts os Q) : awl P f21b28 Q ts os = awl P (.seq (.region f21r27) f21b26) Q ts os := id rfl
def f21b29 : AQ := (.seq f21b28 f21b2)
theorem uf21b29 (P ts os Q) : awl P f21b29 Q ts os = awl P (.seq f21b28 f21b2) Q ts os := id rfl
def f21r30 : List AI := [⟨none, (.mov 63 (.t 5))⟩, ⟨none, (.bin 64 .add (.t 63) (.v (.k (.c (.int .i64 1)))))⟩, ⟨none, (.mov 5 (.t 64))⟩]
theorem uf21r30 : type_of% @f21r30.eq_1 := id @f21r30.eq_1
def f21r31 : List AI := [⟨none, (.mov 2 (.v (.k (.c (.int .i64 1)))))⟩]
theorem uf21r31 : type_of% @f21r31.eq_1 := id @f21r31.eq_1
def f21b32 : AQ := (.seq (.region f21r31) .ret)
theorem uf21b32 (P ts os Q) : awl P f21b32 Q ts os = awl P (.seq (.region f21r31) .ret) Q ts os := id rfl
def f21b33 : AQ := (.cond (.t 91) f21b32 .skip)
theorem uf21b33 (P ts os Q) : awl P f21b33 Q ts os = awl P (.cond (.t 91) f21b32 .skip) Q ts os := id rfl
def f21r34 : List AI := [⟨none, (.mov 71 (.t 6))⟩, ⟨none, (.bin 72 .lss (.t 71) (.v (.k (.c (.int .i64 0)))))⟩, ⟨none, (.mov 73 (.t 72))⟩, ⟨(some (73, false)), (.mov 74 (.t 6))⟩, ⟨(some (73, false)), (.bin 75 .geq (.t 74) (.v (.k (.c (.int .i64 22)))))⟩, ⟨none, (.pick 76 (.t 73) (.v (.k (.c (.bool true)))) (.t 75))⟩, ⟨none, (.mov 77 (.t 76))⟩, ⟨(some (77, false)), (.mov 78 (.t 5))⟩, ⟨(some (77, false)), (.bin 79 .gtr (.t 78) (.v (.k (.c (.int .i64 0)))))⟩, ⟨(some (77, false)), (.mov 80 (.t 79))⟩, ⟨(some (80, true)), (.faddr 81 3 (.t 1))⟩, ⟨(some (80, true)), (.load 82 1 false (.t 81))⟩, ⟨(some (80, true)), (.mov 83 (.t 5))⟩, ⟨(some (80, true)), (.bin 84 .sub (.t 83) (.v (.k (.c (.int .i64 1)))))⟩, ⟨(some (80, true)), (.iaddr 85 4 (.t 82) (.t 84))⟩, ⟨(some (80, true)), (.faddr 86 0 (.t 85))⟩, ⟨(some (80, true)), (.load 87 1 false (.t 86))⟩, ⟨(some (80, true)), (.mov 88 (.t 6))⟩, ⟨(some (80, true)), (.bin 89 .geq (.t 87) (.t 88))⟩, ⟨(some (77, false)), (.pick 90 (.t 80) (.t 89) (.v (.k (.c (.bool false)))))⟩, ⟨none, (.pick 91 (.t 77) (.v (.k (.c (.bool true)))) (.t 90))⟩]
theorem uf21r34 : type_of% @f21r34.eq_1 := id @f21r34.eq_1
def f21b35 : AQ := (.seq (.region f21r34) f21b33)
theorem uf21b35 (P ts os Q) : awl P f21b35 Q ts os = awl P (.seq (.region f21r34) f21b33) Q ts os := id rfl
def f21r36 : List AI := [⟨none, (.faddr 65 3 (.t 1))⟩, ⟨none, (.load 66 1 false (.t 65))⟩, ⟨none, (.mov 67 (.t 5))⟩, ⟨none, (.iaddr 68 4 (.t 66) (.t 67))⟩, ⟨none, (.faddr 69 0 (.t 68))⟩, ⟨none, (.load 70 1 false (.t 69))⟩, ⟨none, (.mov 6 (.t 70))⟩]
theorem uf21r36 : type_of% @f21r36.eq_1 := id @f21r36.eq_1
def f21b37 : AQ := (.seq (.region f21r36) f21b35)
theorem uf21b37 (P ts os Q) : awl P f21b37 Q ts os = awl P (.seq (.region f21r36) f21b35) Q ts os := id rfl
def f21b38 : AQ := (.block 3 f21b37)
theorem uf21b38 (P ts os Q) : awl P f21b38 Q ts os = awl P (.block 3 f21b37) Q ts os := id rfl
def f21b39 : AQ := (.seq f21b38 (.region f21r30))
theorem uf21b39 (P ts os Q) : awl P f21b39 Q ts os = awl P (.seq f21b38 (.region f21r30)) Q ts os := id rfl
def f21b40 : AQ := (.cond (.t 62) .skip (.exit 2))
theorem uf21b40 (P ts os Q) : awl P f21b40 Q ts os = awl P (.cond (.t 62) .skip (.exit 2)) Q ts os := id rfl
def f21r41 : List AI := [⟨none, (.mov 58 (.t 5))⟩, ⟨none, (.faddr 59 3 (.t 1))⟩, ⟨none, (.load 60 1 false (.t 59))⟩, ⟨none, (.len 61 (.t 60))⟩, ⟨none, (.bin 62 .lss (.t 58) (.t 61))⟩]
theorem uf21r41 : type_of% @f21r41.eq_1 := id @f21r41.eq_1
def f21b42 : AQ := (.seq (.region f21r41) f21b40)
theorem uf21b42 (P ts os Q) : awl P f21b42 Q ts os = awl P (.seq (.region f21r41) f21b40) Q ts os := id rfl
def f21b43 : AQ := (.seq f21b42 f21b39)
theorem uf21b43 (P ts os Q) : awl P f21b43 Q ts os = awl P (.seq f21b42 f21b39) Q ts os := id rfl
def f21l44 : AQ := .loop [1, 5] [1] f21b43
theorem uf21l44 (P ts os Q) : awl P f21l44 Q ts os = awl P (.loop [1, 5] [1] f21b43) Q ts os := id rfl
def f21b45 : AQ := (.block 2 f21l44)
theorem uf21b45 (P ts os Q) : awl P f21b45 Q ts os = awl P (.block 2 f21l44) Q ts os := id rfl
def f21r46 : List AI := [⟨none, (.mov 5 (.v (.k (.c (.int .i64 0)))))⟩]
theorem uf21r46 : type_of% @f21r46.eq_1 := id @f21r46.eq_1
def f21b47 : AQ := (.seq (.region f21r46) f21b45)
theorem uf21b47 (P ts os Q) : awl P f21b47 Q ts os = awl P (.seq (.region f21r46) f21b45) Q ts os := id rfl
def f21b48 : AQ := (.seq f21b47 f21b29)
theorem uf21b48 (P ts os Q) : awl P f21b48 Q ts os = awl P (.seq f21b47 f21b29) Q ts os := id rfl
def f21r49 : List AI := [⟨none, (.mov 17 (.t 3))⟩, ⟨none, (.bin 18 .add (.t 17) (.v (.k (.c (.int .i64 1)))))⟩, ⟨none, (.mov 3 (.t 18))⟩]
theorem uf21r49 : type_of% @f21r49.eq_1 := id @f21r49.eq_1
def f21r50 : List AI := [⟨none, (.mov 2 (.v (.k (.c (.int .i64 1)))))⟩]
theorem uf21r50 : type_of% @f21r50.eq_1 := id @f21r50.eq_1
def f21b51 : AQ := (.seq (.region f21r50) .ret)
theorem uf21b51 (P ts os Q) : awl P f21b51 Q ts os = awl P (.seq (.region f21r50) .ret) Q ts os := id rfl
def f21b52 : AQ := (.cond (.t 57) f21b51 .skip)
theorem uf21b52 (P ts os Q) : awl P f21b52 Q ts os = awl P (.cond (.t 57) f21b51 .skip) Q ts os := id rfl
def f21r53 : List AI := [⟨none, (.faddr 24 0 (.t 4))⟩, ⟨none, (.load 25 1 false (.t 24))⟩, ⟨none, (.bin 26 .lss (.t 25) (.v (.k (.c (.int .i64 0)))))⟩, ⟨none, (.mov 27 (.t 26))⟩, ⟨(some (27, false)), (.faddr 28 0 (.t 4))⟩, ⟨(some (27, false)), (.load 29 1 false (.t 28))⟩, ⟨(some (27, false)), (.bin 30 .geq (.t 29) (.v (.k (.c (.int .i64 22)))))⟩, ⟨none, (.pick 31 (.t 27) (.v (.k (.c (.bool true)))) (.t 30))⟩, ⟨none, (.mov 32 (.t 31))⟩, ⟨(some (32, false)), (.faddr 33 1 (.t 4))⟩, ⟨(some (32, false)), (.load 34 1 false (.t 33))⟩, ⟨(some (32, false)), (.bin 35 .lss (.t 34) (.v (.k (.c (.int .i64 0)))))⟩, ⟨none, (.pick 36 (.t 32) (.v (.k (.c (.bool true)))) (.t 35))⟩, ⟨none, (.mov 37 (.t 36))⟩, ⟨(some (37, false)), (.faddr 38 1 (.t 4))⟩, ⟨(some (37, false)), (.load 39 1 false (.t 38))⟩, ⟨(some (37, false)), (.bin 40 .geq (.t 39) (.v (.k (.c (.int .i64 5)))))⟩, ⟨none, (.pick 41 (.t 37) (.v (.k (.c (.bool true)))) (.t 40))⟩, ⟨none, (.mov 42 (.t 41))⟩, ⟨(some (42, false)), (.mov 43 (.t 3))⟩, ⟨(some (42, false)), (.bin 44 .gtr (.t 43) (.v (.k (.c (.int .i64 0)))))⟩, ⟨(some (42, false)), (.mov 45 (.t 44))⟩, ⟨(some (45, true)), (.faddr 46 2 (.t 1))⟩, ⟨(some (45, true)), (.load 47 1 false (.t 46))⟩, ⟨(some (45, true)), (.mov 48 (.t 3))⟩, ⟨(some (45, true)), (.bin 49 .sub (.t 48) (.v (.k (.c (.int .i64 1)))))⟩, ⟨(some (45, true)), (.iaddr 50 3 (.t 47) (.t 49))⟩, ⟨(some (45, true)), (.faddr 51 0 (.t 50))⟩, ⟨(some (45, true)), (.load 52 1 false (.t 51))⟩, ⟨(some (45, true)), (.faddr 53 0 (.t 4))⟩, ⟨(some (45, true)), (.load 54 1 false (.t 53))⟩, ⟨(some (45, true)), (.bin 55 .geq (.t 52) (.t 54))⟩, ⟨(some (42, false)), (.pick 56 (.t 45) (.t 55) (.v (.k (.c (.bool false)))))⟩, ⟨none, (.pick 57 (.t 42) (.v (.k (.c (.bool true)))) (.t 56))⟩]
theorem uf21r53 : type_of% @f21r53.eq_1 := id @f21r53.eq_1
def f21b54 : AQ := (.seq (.draw f21r53 [[], [0], [1], [2], [3], [4, 3], [5, 3], [3, 6], [7, 3], [8], [9, 8], [10, 8], [8, 11], [12, 8], [13], [14, 13], [15, 13], [13, 16], [17, 13], [18], [19, 18], [20, 18, 18], [21], [22, 21], [21], [24, 21], [23, 25, 21], [26, 21], [27, 21], [21], [29, 21], [28, 30, 21], [21, 31, 18], [18, 32]]) f21b52)
theorem uf21b54 (P ts os Q) : awl P f21b54 Q ts os = awl P (.seq (.draw f21r53 [[], [0], [1], [2], [3], [4, 3], [5, 3], [3, 6], [7, 3], [8], [9, 8], [10, 8], [8, 11], [12, 8], [13], [14, 13], [15, 13], [13, 16], [17, 13], [18], [19, 18], [20, 18, 18], [21], [22, 21], [21], [24, 21], [23, 25, 21], [26, 21], [27, 21], [21], [29, 21], [28, 30, 21], [21, 31, 18], [18, 32]]) f21b52) Q ts os := id rfl
def f21r55 : List AI := [⟨none, (.faddr 19 2 (.t 1))⟩, ⟨none, (.load 20 1 false (.t 19))⟩, ⟨none, (.mov 21 (.t 3))⟩, ⟨none, (.iaddr 22 3 (.t 20) (.t 21))⟩, ⟨none, (.load 23 3 true (.t 22))⟩, ⟨none, (.alloc 4 45 [(.int .i64 0), (.int .i64 0), (.bool false)])⟩, ⟨none, (.store 3 (.t 4) (.t 23))⟩]
theorem uf21r55 : type_of% @f21r55.eq_1 := id @f21r55.eq_1
def f21b56 : AQ := (.seq (.region f21r55) f21b54)
theorem uf21b56 (P ts os Q) : awl P f21b56 Q ts os = awl P (.seq (.region f21r55) f21b54) Q ts os := id rfl
def f21b57 : AQ := (.block 1 f21b56)
theorem uf21b57 (P ts os Q) : awl P f21b57 Q ts os = awl P (.block 1 f21b56) Q ts os := id rfl
def f21b58 : AQ := (.seq f21b57 (.region f21r49))
theorem uf21b58 (P ts os Q) : awl P f21b58 Q ts os = awl P (.seq f21b57 (.region f21r49)) Q ts os := id rfl
def f21b59 : AQ := (.cond (.t 16) .skip (.exit 0))
theorem uf21b59 (P ts os Q) : awl P f21b59 Q ts os = awl P (.cond (.t 16) .skip (.exit 0)) Q ts os := id rfl
def f21r60 : List AI := [⟨none, (.mov 12 (.t 3))⟩, ⟨none, (.faddr 13 2 (.t 1))⟩, ⟨none, (.load 14 1 false (.t 13))⟩, ⟨none, (.len 15 (.t 14))⟩, ⟨none, (.bin 16 .lss (.t 12) (.t 15))⟩]
theorem uf21r60 : type_of% @f21r60.eq_1 := id @f21r60.eq_1
def f21b61 : AQ := (.seq (.region f21r60) f21b59)
theorem uf21b61 (P ts os Q) : awl P f21b61 Q ts os = awl P (.seq (.region f21r60) f21b59) Q ts os := id rfl
def f21b62 : AQ := (.seq f21b61 f21b58)
theorem uf21b62 (P ts os Q) : awl P f21b62 Q ts os = awl P (.seq f21b61 f21b58) Q ts os := id rfl
def f21l63 : AQ := .loop [1, 3] [1] f21b62
theorem uf21l63 (P ts os Q) : awl P f21l63 Q ts os = awl P (.loop [1, 3] [1] f21b62) Q ts os := id rfl
def f21b64 : AQ := (.block 0 f21l63)
theorem uf21b64 (P ts os Q) : awl P f21b64 Q ts os = awl P (.block 0 f21l63) Q ts os := id rfl
def f21r65 : List AI := [⟨none, (.mov 3 (.v (.k (.c (.int .i64 0)))))⟩]
theorem uf21r65 : type_of% @f21r65.eq_1 := id @f21r65.eq_1
def f21b66 : AQ := (.seq (.region f21r65) f21b64)
theorem uf21b66 (P ts os Q) : awl P f21b66 Q ts os = awl P (.seq (.region f21r65) f21b64) Q ts os := id rfl
def f21b67 : AQ := (.seq f21b66 f21b48)
theorem uf21b67 (P ts os Q) : awl P f21b67 Q ts os = awl P (.seq f21b66 f21b48) Q ts os := id rfl
def f21r68 : List AI := [⟨none, (.box 1 25 (.t 0))⟩, ⟨none, (.mov 2 (.v (.k (.c (.int .i64 0)))))⟩]
theorem uf21r68 : type_of% @f21r68.eq_1 := id @f21r68.eq_1
def f21b69 : AQ := (.seq (.region f21r68) f21b67)
theorem uf21b69 (P ts os Q) : awl P f21b69 Q ts os = awl P (.seq (.region f21r68) f21b67) Q ts os := id rfl
def f21 : AQ := f21b69
theorem uf21 (P ts os Q) : awl P f21 Q ts os = awl P f21b69 Q ts os := id rfl
theorem hf21 : cFunc Try.prog 21 = some ⟨125, f21.erase, [(RX.t 2)]⟩ := by kernel_rfl
theorem okf21 : f21.ok = true := by kernel_rfl
/-! ### function 22 -/
def f22r1 : List AI := [⟨none, (.mov 4 (.v (.k (.c (.bool true)))))⟩]
theorem uf22r1 : type_of% @f22r1.eq_1 := id @f22r1.eq_1
def f22b2 : AQ := (.seq (.region f22r1) .ret)
theorem uf22b2 (P ts os Q) : awl P f22b2 Q ts os = awl P (.seq (.region f22r1) .ret) Q ts os := id rfl
def f22r3 : List AI := [⟨none, (.mov 15 (.t 5))⟩, ⟨none, (.bin 16 .add (.t 15) (.v (.k (.c (.int .i64 1)))))⟩, ⟨none, (.mov 5 (.t 16))⟩]
theorem uf22r3 : type_of% @f22r3.eq_1 := id @f22r3.eq_1
def f22r4 : List AI := [⟨none, (.mov 4 (.v (.k (.c (.bool false)))))⟩]
theorem uf22r4 : type_of% @f22r4.eq_1 := id @f22r4.eq_1
def f22b5 : AQ := (.seq (.region f22r4) .ret)
theorem uf22b5 (P ts os Q) : awl P f22b5 Q ts os = awl P (.seq (.region f22r4) .ret) Q ts os := id rfl
def f22b6 : AQ := (.cond (.t 25) f22b5 .skip)
theorem uf22b6 (P ts os Q) : awl P f22b6 Q ts os = awl P (.cond (.t 25) f22b5 .skip) Q ts os := id rfl
def f22r7 : List AI := [⟨none, (.mov 17 (.t 0))⟩, ⟨none, (.mov 18 (.t 5))⟩, ⟨none, (.iaddr 19 1 (.t 17) (.t 18))⟩, ⟨none, (.load 20 1 false (.t 19))⟩, ⟨none, (.mov 21 (.t 1))⟩, ⟨none, (.mov 22 (.t 5))⟩, ⟨none, (.iaddr 23 1 (.t 21) (.t 22))⟩, ⟨none, (.load 24 1 false (.t 23))⟩, ⟨none, (.bin 25 .neq (.t 20) (.t 24))⟩]
theorem uf22r7 : type_of% @f22r7.eq_1 := id @f22r7.eq_1
def f22b8 : AQ := (.seq (.draw f22r7 [[], [], [0, 1], [2], [], [], [4, 5], [6], [3, 7]]) f22b6)
theorem uf22b8 (P ts os Q) : awl P f22b8 Q ts os = awl P (.seq (.draw f22r7 [[], [], [0, 1], [2], [], [], [4, 5], [6], [3, 7]]) f22b6) Q ts os := id rfl
def f22b9 : AQ := (.block 1 f22b8)
theorem uf22b9 (P ts os Q) : awl P f22b9 Q ts os = awl P (.block 1 f22b8) Q ts os := id rfl
def f22b10 : AQ := (.seq f22b9 (.region f22r3))
theorem uf22b10 (P ts os Q) : awl P f22b10 Q ts os = awl P (.seq f22b9 (.region f22r3)) Q ts os := id rfl
def f22b11 : AQ := (.cond (.t 14) .skip (.exit 0))
theorem uf22b11 (P ts os Q) : awl P f22b11 Q ts os = awl P (.cond (.t 14) .skip (.exit 0)) Q ts os := id rfl
def f22r12 : List AI := [⟨none, (.mov 11 (.t 5))⟩, ⟨none, (.mov 12 (.t 0))⟩, ⟨none, (.len 13 (.t 12))⟩, ⟨none, (.bin 14 .lss (.t 11) (.t 13))⟩]
theorem uf22r12 : type_of% @f22r12.eq_1 := id @f22r12.eq_1
def f22b13 : AQ := (.seq (.region f22r12) f22b11)
theorem uf22b13 (P ts os Q) : awl P f22b13 Q ts os = awl P (.seq (.region f22r12) f22b11) Q ts os := id rfl
def f22b14 : AQ := (.seq f22b13 f22b10)
theorem uf22b14 (P ts os Q) : awl P f22b14 Q ts os = awl P (.seq f22b13 f22b10) Q ts os := id rfl
def f22l15 : AQ := .loop [0, 1, 5] [] f22b14
theorem uf22l15 (P ts os Q) : awl P f22l15 Q ts os = awl P (.loop [0, 1, 5] [] f22b14) Q ts os := id rfl
def f22b16 : AQ := (.block 0 f22l15)
theorem uf22b16 (P ts os Q) : awl P f22b16 Q ts os = awl P (.block 0 f22l15) Q ts os := id rfl
def f22r17 : List AI := [⟨none, (.mov 5 (.v (.k (.c (.int .i64 0)))))⟩]
theorem uf22r17 : type_of% @f22r17.eq_1 := id @f22r17.eq_1
def f22b18 : AQ := (.seq (.region f22r17) f22b16)
theorem uf22b18 (P ts os Q) : awl P f22b18 Q ts os = awl P (.seq (.region f22r17) f22b16) Q ts os := id rfl
def f22b19 : AQ := (.seq f22b18 f22b2)
theorem uf22b19 (P ts os Q) : awl P f22b19 Q ts os = awl P (.seq f22b18 f22b2) Q ts os := id rfl
def f22r20 : List AI := [⟨none, (.mov 4 (.v (.k (.c (.bool false)))))⟩]
theorem uf22r20 : type_of% @f22r20.eq_1 := id @f22r20.eq_1
def f22b21 : AQ := (.seq (.region f22r20) .ret)
theorem uf22b21 (P ts os Q) : awl P f22b21 Q ts os = awl P (.seq (.region f22r20) .ret) Q ts os := id rfl
def f22b22 : AQ := (.cond (.t 10) f22b21 .skip)
theorem uf22b22 (P ts os Q) : awl P f22b22 Q ts os = awl P (.cond (.t 10) f22b21 .skip) Q ts os := id rfl
def f22r23 : List AI := [⟨none, (.mov 6 (.t 0))⟩, ⟨none, (.len 7 (.t 6))⟩, ⟨none, (.mov 8 (.t 1))⟩, ⟨none, (.len 9 (.t 8))⟩, ⟨none, (.bin 10 .neq (.t 7) (.t 9))⟩]
theorem uf22r23 : type_of% @f22r23.eq_1 := id @f22r23.eq_1
def f22b24 : AQ := (.seq (.region f22r23) f22b22)
theorem uf22b24 (P ts os Q) : awl P f22b24 Q ts os = awl P (.seq (.region f22r23) f22b22) Q ts os := id rfl
def f22b25 : AQ := (.seq f22b24 f22b19)
theorem uf22b25 (P ts os Q) : awl P f22b25 Q ts os = awl P (.seq f22b24 f22b19) Q ts os := id rfl
def f22r26 : List AI := [⟨none, (.mov 4 (.v (.k (.c (.bool false)))))⟩]
theorem uf22r26 : type_of% @f22r26.eq_1 := id @f22r26.eq_1
def f22b27 : AQ := (.seq (.region f22r26) f22b25)
theorem uf22b27 (P ts os Q) : awl P f22b27 Q ts os = awl P (.seq (.region f22r26) f22b25) Q ts os := id rfl
def f22 : AQ := f22b27
theorem uf22 (P ts os Q) : awl P f22 Q ts os = awl P f22b27 Q ts os := id rfl
theorem hf22 : cFunc Try.prog 22 = some ⟨26, f22.erase, [(RX.t 4)]⟩ := by kernel_rfl
theorem okf22 : f22.ok = true := by kernel_rfl
/-! ### function 23 -/
def f23r1 : List AI := [⟨none, (.mov 18 (.t 3))⟩, ⟨none, (.mov 2 (.t 18))⟩]
theorem uf23r1 : type_of% @f23r1.eq_1 := id @f23r1.eq_1
def f23b2 : AQ := (.seq (.region f23r1) .ret)
theorem uf23b2 (P ts os Q) : awl P f23b2 Q ts os = awl P (.seq (.region f23r1) .ret) Q ts os := id rfl
def f23r3 : List AI := [⟨none, (.bin 17 .add (.t 5) (.v (.k (.c (.int .i64 1)))))⟩, ⟨none, (.mov 5 (.t 17))⟩]
theorem uf23r3 : type_of% @f23r3.eq_1 := id @f23r3.eq_1
def f23r4 : List AI := [⟨none, (.mov 13 (.t 3))⟩, ⟨none, (.load 14 1 false (.t 4))⟩, ⟨none, (.bslice 15 3 1 [(.int .i64 0)] 1 [(0, (.t 14))])⟩, ⟨none, (.append 16 3 1 8 (.t 13) (.t 15))⟩, ⟨none, (.mov 3 (.t 16))⟩]
theorem uf23r4 : type_of% @f23r4.eq_1 := id @f23r4.eq_1
def f23b5 : AQ := (.cond (.t 12) (.region f23r4) .skip)
theorem uf23b5 (P ts os Q) : awl P f23b5 Q ts os = awl P (.cond (.t 12) (.region f23r4) .skip) Q ts os := id rfl
def f23r6 : List AI := [⟨none, (.faddr 8 3 (.t 1))⟩, ⟨none, (.load 9 1 false (.t 8))⟩, ⟨none, (.mkfn 10 47 [(.t 4)])⟩, ⟨none, (.call (some 11) 46 [(.t 9), (.t 10)])⟩, ⟨none, (.un 12 .not (.t 11))⟩]
theorem uf23r6 : type_of% @f23r6.eq_1 := id @f23r6.eq_1
def f23b7 : AQ := (.seq (.region f23r6) f23b5)
theorem uf23b7 (P ts os Q) : awl P f23b7 Q ts os = awl P (.seq (.region f23r6) f23b5) Q ts os := id rfl
def f23r8 : List AI := [⟨none, (.mov 7 (.t 5))⟩, ⟨none, (.alloc 4 3 [(.int .i64 0)])⟩, ⟨none, (.store 1 (.t 4) (.t 7))⟩]
theorem uf23r8 : type_of% @f23r8.eq_1 := id @f23r8.eq_1
def f23b9 : AQ := (.seq (.region f23r8) f23b7)
theorem uf23b9 (P ts os Q) : awl P f23b9 Q ts os = awl P (.seq (.region f23r8) f23b7) Q ts os := id rfl
def f23b10 : AQ := (.block 1 f23b9)
theorem uf23b10 (P ts os Q) : awl P f23b10 Q ts os = awl P (.block 1 f23b9) Q ts os := id rfl
def f23b11 : AQ := (.seq f23b10 (.region f23r3))
theorem uf23b11 (P ts os Q) : awl P f23b11 Q ts os = awl P (.seq f23b10 (.region f23r3)) Q ts os := id rfl
def f23b12 : AQ := (.cond (.t 6) .skip (.exit 0))
theorem uf23b12 (P ts os Q) : awl P f23b12 Q ts os = awl P (.cond (.t 6) .skip (.exit 0)) Q ts os := id rfl
def f23b13 : AQ := (.seq f23b12 f23b11)
theorem uf23b13 (P ts os Q) : awl P f23b13 Q ts os = awl P (.seq f23b12 f23b11) Q ts os := id rfl
def f23r14 : List AI := [⟨none, (.bin 6 .lss (.t 5) (.v (.k (.c (.int .i64 22)))))⟩]
theorem uf23r14 : type_of% @f23r14.eq_1 := id @f23r14.eq_1
def f23b15 : AQ := (.seq (.region f23r14) f23b13)
theorem uf23b15 (P ts os Q) : awl P f23b15 Q ts os = awl P (.seq (.region f23r14) f23b13) Q ts os := id rfl
def f23l16 : AQ := .loop [1, 3, 5] [1, 3, 16] f23b15
theorem uf23l16 (P ts os Q) : awl P f23l16 Q ts os = awl P (.loop [1, 3, 5] [1, 3, 16] f23b15) Q ts os := id rfl
def f23b17 : AQ := (.block 0 f23l16)
theorem uf23b17 (P ts os Q) : awl P f23b17 Q ts os = awl P (.block 0 f23l16) Q ts os := id rfl
def f23r18 : List AI := [⟨none, (.mov 5 (.v (.k (.c (.int .i64 0)))))⟩]
theorem uf23r18 : type_of% @f23r18.eq_1 := id @f23r18.eq_1
def f23b19 : AQ := (.seq (.region f23r18) f23b17)
theorem uf23b19 (P ts os Q) : awl P f23b19 Q ts os = awl P (.seq (.region f23r18) f23b17) Q ts os := id rfl
def f23b20 : AQ := (.seq f23b19 f23b2)
theorem uf23b20 (P ts os Q) : awl P f23b20 Q ts os = awl P (.seq f23b19 f23b2) Q ts os := id rfl
def f23r21 : List AI := [⟨none, (.nilL 3 3 1)⟩]
theorem uf23r21 : type_of% @f23r21.eq_1 := id @f23r21.eq_1
def f23b22 : AQ := (.seq (.region f23r21) f23b20)
theorem uf23b22 (P ts os Q) : awl P f23b22 Q ts os = awl P (.seq (.region f23r21) f23b20) Q ts os := id rfl
def f23r23 : List AI := [⟨none, (.box 1 25 (.t 0))⟩, ⟨none, (.nilL 2 3 1)⟩]
theorem uf23r23 : type_of% @f23r23.eq_1 := id @f23r23.eq_1
def f23b24 : AQ := (.seq (.region f23r23) f23b22)
theorem uf23b24 (P ts os Q) : awl P f23b24 Q ts os = awl P (.seq (.region f23r23) f23b22) Q ts os := id rfl
def f23 : AQ := f23b24
theorem uf23 (P ts os Q) : awl P f23 Q ts os = awl P f23b24 Q ts os := id rfl
theorem hf23 : cFunc Try.prog 23 = some ⟨19, f23.erase, [(RX.t 2)]⟩ := by kernel_rfl
theorem okf23 : f23.ok = true := by kernel_rfl
/-! ### function 24 -/
def f24r1 : List AI := [⟨none, (.mov 18 (.t 3))⟩, ⟨none, (.mov 2 (.t 18))⟩]
theorem uf24r1 : type_of% @f24r1.eq_1 := id @f24r1.eq_1
def f24b2 : AQ := (.seq (.region f24r1) .ret)
theorem uf24b2 (P ts os Q) : awl P f24b2 Q ts os = awl P (.seq (.region f24r1) .ret) Q ts os := id rfl
def f24r3 : List AI := [⟨none, (.mov 8 (.t 4))⟩, ⟨none, (.bin 9 .add (.t 8) (.v (.k (.c (.int .i64 1)))))⟩, ⟨none, (.mov 4 (.t 9))⟩]
theorem uf24r3 : type_of% @f24r3.eq_1 := id @f24r3.eq_1
def f24r4 : List AI := [⟨none, (.mov 14 (.t 3))⟩, ⟨none, (.mov 15 (.t 4))⟩, ⟨none, (.bslice 16 3 1 [(.int .i64 0)] 1 [(0, (.t 15))])⟩, ⟨none, (.append 17 3 1 8 (.t 14) (.t 16))⟩, ⟨none, (.mov 3 (.t 17))⟩]
theorem uf24r4 : type_of% @f24r4.eq_1 := id @f24r4.eq_1
def f24b5 : AQ := (.cond (.t 13) (.region f24r4) .skip)
theorem uf24b5 (P ts os Q) : awl P f24b5 Q ts os = awl P (.cond (.t 13) (.region f24r4) .skip) Q ts os := id rfl
def f24r6 : List AI := [⟨none, (.load 10 4 true (.t 1))⟩, ⟨none, (.mov 11 (.t 4))⟩, ⟨none, (.call (some 12) 48 [(.t 10), (.t 11)])⟩, ⟨none, (.bin 13 .lss (.t 12) (.v (.k (.c (.int .i64 0)))))⟩]
theorem uf24r6 : type_of% @f24r6.eq_1 := id @f24r6.eq_1
def f24b7 : AQ := (.seq (.region f24r6) f24b5)
theorem uf24b7 (P ts os Q) : awl P f24b7 Q ts os = awl P (.seq (.region f24r6) f24b5) Q ts os := id rfl
def f24b8 : AQ := (.block 1 f24b7)
theorem uf24b8 (P ts os Q) : awl P f24b8 Q ts os = awl P (.block 1 f24b7) Q ts os := id rfl
def f24b9 : AQ := (.seq f24b8 (.region f24r3))
theorem uf24b9 (P ts os Q) : awl P f24b9 Q ts os = awl P (.seq f24b8 (.region f24r3)) Q ts os := id rfl
def f24b10 : AQ := (.cond (.t 7) .skip (.exit 0))
theorem uf24b10 (P ts os Q) : awl P f24b10 Q ts os = awl P (.cond (.t 7) .skip (.exit 0)) Q ts os := id rfl
def f24r11 : List AI := [⟨none, (.mov 6 (.t 4))⟩, ⟨none, (.bin 7 .lss (.t 6) (.v (.k (.c (.int .i64 22)))))⟩]
theorem uf24r11 : type_of% @f24r11.eq_1 := id @f24r11.eq_1
def f24b12 : AQ := (.seq (.region f24r11) f24b10)
theorem uf24b12 (P ts os Q) : awl P f24b12 Q ts os = awl P (.seq (.region f24r11) f24b10) Q ts os := id rfl
def f24b13 : AQ := (.seq f24b12 f24b9)
theorem uf24b13 (P ts os Q) : awl P f24b13 Q ts os = awl P (.seq f24b12 f24b9) Q ts os := id rfl
def f24l14 : AQ := .loop [1, 3, 4] [1, 5, 17] f24b13
theorem uf24l14 (P ts os Q) : awl P f24l14 Q ts os = awl P (.loop [1, 3, 4] [1, 5, 17] f24b13) Q ts os := id rfl
def f24b15 : AQ := (.block 0 f24l14)
theorem uf24b15 (P ts os Q) : awl P f24b15 Q ts os = awl P (.block 0 f24l14) Q ts os := id rfl
def f24r16 : List AI := [⟨none, (.mov 4 (.v (.k (.c (.int .i64 0)))))⟩]
theorem uf24r16 : type_of% @f24r16.eq_1 := id @f24r16.eq_1
def f24b17 : AQ := (.seq (.region f24r16) f24b15)
theorem uf24b17 (P ts os Q) : awl P f24b17 Q ts os = awl P (.seq (.region f24r16) f24b15) Q ts os := id rfl
def f24b18 : AQ := (.seq f24b17 f24b2)
theorem uf24b18 (P ts os Q) : awl P f24b18 Q ts os = awl P (.seq f24b17 f24b2) Q ts os := id rfl
def f24r19 : List AI := [⟨none, (.bslice 5 3 1 [(.int .i64 0)] 0 [])⟩, ⟨none, (.mov 3 (.t 5))⟩]
theorem uf24r19 : type_of% @f24r19.eq_1 := id @f24r19.eq_1
def f24b20 : AQ := (.seq (.region f24r19) f24b18)
theorem uf24b20 (P ts os Q) : awl P f24b20 Q ts os = awl P (.seq (.region f24r19) f24b18) Q ts os := id rfl
def f24r21 : List AI := [⟨none, (.box 1 25 (.t 0))⟩, ⟨none, (.nilL 2 3 1)⟩]
theorem uf24r21 : type_of% @f24r21.eq_1 := id @f24r21.eq_1
def f24b22 : AQ := (.seq (.region f24r21) f24b20)
theorem uf24b22 (P ts os Q) : awl P f24b22 Q ts os = awl P (.seq (.region f24r21) f24b20) Q ts os := id rfl
def f24 : AQ := f24b22
theorem uf24 (P ts os Q) : awl P f24 Q ts os = awl P f24b22 Q ts os := id rfl
theorem hf24 : cFunc Try.prog 24 = some ⟨19, f24.erase, [(RX.t 2)]⟩ := by kernel_rfl
theorem okf24 : f24.ok = true := by kernel_rfl
/-! ### function 25 -/
def f25r1 : List AI := [⟨none, (.mov 21 (.t 3))⟩, ⟨none, (.call (some 22) 50 [(.t 21)])⟩, ⟨none, (.mov 2 (.t 22))⟩]
theorem uf25r1 : type_of% @f25r1.eq_1 := id @f25r1.eq_1
def f25b2 : AQ := (.seq (.region f25r1) .ret)
theorem uf25b2 (P ts os Q) : awl P f25b2 Q ts os = awl P (.seq (.region f25r1) .ret) Q ts os := id rfl
def f25r3 : List AI := [⟨none, (.mov 19 (.t 3))⟩, ⟨none, (.call (some 20) 49 [(.t 19)])⟩]
theorem uf25r3 : type_of% @f25r3.eq_1 := id @f25r3.eq_1
def f25b4 : AQ := (.seq (.region f25r3) f25b2)
theorem uf25b4 (P ts os Q) : awl P f25b4 Q ts os = awl P (.seq (.region f25r3) f25b2) Q ts os := id rfl
def f25r5 : List AI := [⟨none, (.bin 18 .add (.t 9) (.v (.k (.c (.int .i64 1)))))⟩, ⟨none, (.mov 9 (.t 18))⟩]
theorem uf25r5 : type_of% @f25r5.eq_1 := id @f25r5.eq_1
def f25r6 : List AI := [⟨none, (.mov 13 (.t 3))⟩, ⟨none, (.faddr 14 1 (.t 5))⟩, ⟨none, (.load 15 3 true (.t 14))⟩, ⟨none, (.call (some 16) 35 [(.t 15)])⟩, ⟨none, (.append 17 3 1 8 (.t 13) (.t 16))⟩, ⟨none, (.mov 3 (.t 17))⟩]
theorem uf25r6 : type_of% @f25r6.eq_1 := id @f25r6.eq_1
def f25r7 : List AI := [⟨none, (.iaddr 11 4 (.t 7) (.t 9))⟩, ⟨none, (.load 12 4 true (.t 11))⟩, ⟨none, (.alloc 5 43 [(.int .i64 0), (.int .i64 0), (.int .i64 0), (.list 0 (some true) [])])⟩, ⟨none, (.store 4 (.t 5) (.t 12))⟩]
theorem uf25r7 : type_of% @f25r7.eq_1 := id @f25r7.eq_1
def f25b8 : AQ := (.seq (.region f25r7) (.region f25r6))
theorem uf25b8 (P ts os Q) : awl P f25b8 Q ts os = awl P (.seq (.region f25r7) (.region f25r6)) Q ts os := id rfl
def f25b9 : AQ := (.block 1 f25b8)
theorem uf25b9 (P ts os Q) : awl P f25b9 Q ts os = awl P (.block 1 f25b8) Q ts os := id rfl
def f25b10 : AQ := (.seq f25b9 (.region f25r5))
theorem uf25b10 (P ts os Q) : awl P f25b10 Q ts os = awl P (.seq f25b9 (.region f25r5)) Q ts os := id rfl
def f25b11 : AQ := (.cond (.t 10) .skip (.exit 0))
theorem uf25b11 (P ts os Q) : awl P f25b11 Q ts os = awl P (.cond (.t 10) .skip (.exit 0)) Q ts os := id rfl
def f25b12 : AQ := (.seq f25b11 f25b10)
theorem uf25b12 (P ts os Q) : awl P f25b12 Q ts os = awl P (.seq f25b11 f25b10) Q ts os := id rfl
def f25r13 : List AI := [⟨none, (.bin 10 .lss (.t 9) (.t 8))⟩]
theorem uf25r13 : type_of% @f25r13.eq_1 := id @f25r13.eq_1
def f25b14 : AQ := (.seq (.region f25r13) f25b12)
theorem uf25b14 (P ts os Q) : awl P f25b14 Q ts os = awl P (.seq (.region f25r13) f25b12) Q ts os := id rfl
def f25l15 : AQ := .loop [3, 7, 8, 9] [3, 17] f25b14
theorem uf25l15 (P ts os Q) : awl P f25l15 Q ts os = awl P (.loop [3, 7, 8, 9] [3, 17] f25b14) Q ts os := id rfl
def f25b16 : AQ := (.block 0 f25l15)
theorem uf25b16 (P ts os Q) : awl P f25b16 Q ts os = awl P (.block 0 f25l15) Q ts os := id rfl
def f25r17 : List AI := [⟨none, (.faddr 6 3 (.t 1))⟩, ⟨none, (.load 7 1 false (.t 6))⟩, ⟨none, (.len 8 (.t 7))⟩, ⟨none, (.mov 9 (.v (.k (.c (.int .i64 0)))))⟩]
theorem uf25r17 : type_of% @f25r17.eq_1 := id @f25r17.eq_1
def f25b18 : AQ := (.seq (.region f25r17) f25b16)
theorem uf25b18 (P ts os Q) : awl P f25b18 Q ts os = awl P (.seq (.region f25r17) f25b16) Q ts os := id rfl
def f25b19 : AQ := (.seq f25b18 f25b4)
theorem uf25b19 (P ts os Q) : awl P f25b19 Q ts os = awl P (.seq f25b18 f25b4) Q ts os := id rfl
def f25r20 : List AI := [⟨none, (.nilL 3 3 1)⟩]
theorem uf25r20 : type_of% @f25r20.eq_1 := id @f25r20.eq_1
def f25b21 : AQ := (.seq (.region f25r20) f25b19)
theorem uf25b21 (P ts os Q) : awl P f25b21 Q ts os = awl P (.seq (.region f25r20) f25b19) Q ts os := id rfl
def f25r22 : List AI := [⟨none, (.box 1 25 (.t 0))⟩, ⟨none, (.nilL 2 3 1)⟩]
theorem uf25r22 : type_of% @f25r22.eq_1 := id @f25r22.eq_1
def f25b23 : AQ := (.seq (.region f25r22) f25b21)
theorem uf25b23 (P ts os Q) : awl P f25b23 Q ts os = awl P (.seq (.region f25r22) f25b21) Q ts os := id rfl
def f25 : AQ := f25b23
theorem uf25 (P ts os Q) : awl P f25 Q ts os = awl P f25b23 Q ts os := id rfl
theorem hf25 : cFunc Try.prog 25 = some ⟨23, f25.erase, [(RX.t 2)]⟩ := by kernel_rfl
theorem okf25 : f25.ok = true := by kernel_rfl
/-! ### function 26 -/
def f26r1 : List AI := [⟨none, (.mov 36 (.t 3))⟩, ⟨none, (.mov 2 (.t 36))⟩]
theorem uf26r1 : type_of% @f26r1.eq_1 := id @f26r1.eq_1
def f26b2 : AQ := (.seq (.region f26r1) .ret)
theorem uf26b2 (P ts os Q) : awl P f26b2 Q ts os = awl P (.seq (.region f26r1) .ret) Q ts os := id rfl
def f26r3 : List AI := [⟨none, (.mov 10 (.t 4))⟩, ⟨none, (.bin 11 .add (.t 10) (.v (.k (.c (.int .i64 1)))))⟩, ⟨none, (.mov 4 (.t 11))⟩]
theorem uf26r3 : type_of% @f26r3.eq_1 := id @f26r3.eq_1
def f26r4 : List AI := [⟨none, (.mov 32 (.t 3))⟩, ⟨none, (.mov 33 (.t 4))⟩, ⟨none, (.bslice 34 3 1 [(.int .i64 0)] 1 [(0, (.t 33))])⟩, ⟨none, (.append 35 3 1 8 (.t 32) (.t 34))⟩, ⟨none, (.mov 3 (.t 35))⟩]
theorem uf26r4 : type_of% @f26r4.eq_1 := id @f26r4.eq_1
def f26b5 : AQ := (.cond (.t 31) (.region f26r4) .skip)
theorem uf26b5 (P ts os Q) : awl P f26b5 Q ts os = awl P (.cond (.t 31) (.region f26r4) .skip) Q ts os := id rfl
def f26r6 : List AI := [⟨none, (.mov 31 (.t 5))⟩]
theorem uf26r6 : type_of% @f26r6.eq_1 := id @f26r6.eq_1
def f26b7 : AQ := (.seq (.region f26r6) f26b5)
theorem uf26b7 (P ts os Q) : awl P f26b7 Q ts os = awl P (.seq (.region f26r6) f26b5) Q ts os := id rfl
def f26r8 : List AI := [⟨none, (.mov 17 (.t 6))⟩, ⟨none, (.bin 18 .add (.t 17) (.v (.k (.c (.int .i64 1)))))⟩, ⟨none, (.mov 6 (.t 18))⟩]
theorem uf26r8 : type_of% @f26r8.eq_1 := id @f26r8.eq_1
def f26r9 : List AI := [⟨none, (.mov 19 (.t 5))⟩, ⟨none, (.mov 20 (.t 19))⟩, ⟨(some (20, false)), (.faddr 21 3 (.t 1))⟩, ⟨(some (20, false)), (.load 22 1 false (.t 21))⟩, ⟨(some (20, false)), (.mov 23 (.t 6))⟩, ⟨(some (20, false)), (.iaddr 24 4 (.t 22) (.t 23))⟩, ⟨(some (20, false)), (.faddr 25 1 (.t 24))⟩, ⟨(some (20, false)), (.load 26 3 true (.t 25))⟩, ⟨(some (20, false)), (.call (some 27) 36 [(.t 26)])⟩, ⟨(some (20, false)), (.mov 28 (.t 4))⟩, ⟨(some (20, false)), (.call (some 29) 51 [(.t 27), (.t 28)])⟩, ⟨none, (.pick 30 (.t 20) (.v (.k (.c (.bool true)))) (.t 29))⟩, ⟨none, (.mov 5 (.t 30))⟩]
theorem uf26r9 : type_of% @f26r9.eq_1 := id @f26r9.eq_1
def f26b10 : AQ := (.block 3 (.region f26r9))
theorem uf26b10 (P ts os Q) : awl P f26b10 Q ts os = awl P (.block 3 (.region f26r9)) Q ts os := id rfl
def f26b11 : AQ := (.seq f26b10 (.region f26r8))
theorem uf26b11 (P ts os Q) : awl P f26b11 Q ts os = awl P (.seq f26b10 (.region f26r8)) Q ts os := id rfl
def f26b12 : AQ := (.cond (.t 16) .skip (.exit 2))
theorem uf26b12 (P ts os Q) : awl P f26b12 Q ts os = awl P (.cond (.t 16) .skip (.exit 2)) Q ts os := id rfl
def f26r13 : List AI := [⟨none, (.mov 12 (.t 6))⟩, ⟨none, (.faddr 13 3 (.t 1))⟩, ⟨none, (.load 14 1 false (.t 13))⟩, ⟨none, (.len 15 (.t 14))⟩, ⟨none, (.bin 16 .lss (.t 12) (.t 15))⟩]
theorem uf26r13 : type_of% @f26r13.eq_1 := id @f26r13.eq_1
def f26b14 : AQ := (.seq (.region f26r13) f26b12)
theorem uf26b14 (P ts os Q) : awl P f26b14 Q ts os = awl P (.seq (.region f26r13) f26b12) Q ts os := id rfl
def f26b15 : AQ := (.seq f26b14 f26b11)
theorem uf26b15 (P ts os Q) : awl P f26b15 Q ts os = awl P (.seq f26b14 f26b11) Q ts os := id rfl
def f26l16 : AQ := .loop [1, 3, 4, 5, 6] [1, 7, 35] f26b15
theorem uf26l16 (P ts os Q) : awl P f26l16 Q ts os = awl P (.loop [1, 3, 4, 5, 6] [1, 7, 35] f26b15) Q ts os := id rfl
def f26b17 : AQ := (.block 2 f26l16)
theorem uf26b17 (P ts os Q) : awl P f26b17 Q ts os = awl P (.block 2 f26l16) Q ts os := id rfl
def f26r18 : List AI := [⟨none, (.mov 6 (.v (.k (.c (.int .i64 0)))))⟩]
theorem uf26r18 : type_of% @f26r18.eq_1 := id @f26r18.eq_1
def f26b19 : AQ := (.seq (.region f26r18) f26b17)
theorem uf26b19 (P ts os Q) : awl P f26b19 Q ts os = awl P (.seq (.region f26r18) f26b17) Q ts os := id rfl
def f26b20 : AQ := (.seq f26b19 f26b7)
theorem uf26b20 (P ts os Q) : awl P f26b20 Q ts os = awl P (.seq f26b19 f26b7) Q ts os := id rfl
def f26r21 : List AI := [⟨none, (.mov 5 (.v (.k (.c (.bool false)))))⟩]
theorem uf26r21 : type_of% @f26r21.eq_1 := id @f26r21.eq_1
def f26b22 : AQ := (.seq (.region f26r21) f26b20)
theorem uf26b22 (P ts os Q) : awl P f26b22 Q ts os = awl P (.seq (.region f26r21) f26b20) Q ts os := id rfl
def f26b23 : AQ := (.block 1 f26b22)
theorem uf26b23 (P ts os Q) : awl P f26b23 Q ts os = awl P (.block 1 f26b22) Q ts os := id rfl
def f26b24 : AQ := (.seq f26b23 (.region f26r3))
theorem uf26b24 (P ts os Q) : awl P f26b24 Q ts os = awl P (.seq f26b23 (.region f26r3)) Q ts os := id rfl
def f26b25 : AQ := (.cond (.t 9) .skip (.exit 0))
theorem uf26b25 (P ts os Q) : awl P f26b25 Q ts os = awl P (.cond (.t 9) .skip (.exit 0)) Q ts os := id rfl
def f26r26 : List AI := [⟨none, (.mov 8 (.t 4))⟩, ⟨none, (.bin 9 .lss (.t 8) (.v (.k (.c (.int .i64 20)))))⟩]
theorem uf26r26 : type_of% @f26r26.eq_1 := id @f26r26.eq_1
def f26b27 : AQ := (.seq (.region f26r26) f26b25)
theorem uf26b27 (P ts os Q) : awl P f26b27 Q ts os = awl P (.seq (.region f26r26) f26b25) Q ts os := id rfl
def f26b28 : AQ := (.seq f26b27 f26b24)
theorem uf26b28 (P ts os Q) : awl P f26b28 Q ts os = awl P (.seq f26b27 f26b24) Q ts os := id rfl
def f26l29 : AQ := .loop [1, 3, 4] [1, 7, 35] f26b28
theorem uf26l29 (P ts os Q) : awl P f26l29 Q ts os = awl P (.loop [1, 3, 4] [1, 7, 35] f26b28) Q ts os := id rfl
def f26b30 : AQ := (.block 0 f26l29)
theorem uf26b30 (P ts os Q) : awl P f26b30 Q ts os = awl P (.block 0 f26l29) Q ts os := id rfl
def f26r31 : List AI := [⟨none, (.mov 4 (.v (.k (.c (.int .i64 0)))))⟩]
theorem uf26r31 : type_of% @f26r31.eq_1 := id @f26r31.eq_1
def f26b32 : AQ := (.seq (.region f26r31) f26b30)
theorem uf26b32 (P ts os Q) : awl P f26b32 Q ts os = awl P (.seq (.region f26r31) f26b30) Q ts os := id rfl
def f26b33 : AQ := (.seq f26b32 f26b2)
theorem uf26b33 (P ts os Q) : awl P f26b33 Q ts os = awl P (.seq f26b32 f26b2) Q ts os := id rfl
def f26r34 : List AI := [⟨none, (.bslice 7 3 1 [(.int .i64 0)] 0 [])⟩, ⟨none, (.mov 3 (.t 7))⟩]
theorem uf26r34 : type_of% @f26r34.eq_1 := id @f26r34.eq_1
def f26b35 : AQ := (.seq (.region f26r34) f26b33)
theorem uf26b35 (P ts os Q) : awl P f26b35 Q ts os = awl P (.seq (.region f26r34) f26b33) Q ts os := id rfl
def f26r36 : List AI := [⟨none, (.box 1 25 (.t 0))⟩, ⟨none, (.nilL 2 3 1)⟩]
theorem uf26r36 : type_of% @f26r36.eq_1 := id @f26r36.eq_1
def f26b37 : AQ := (.seq (.region f26r36) f26b35)
theorem uf26b37 (P ts os Q) : awl P f26b37 Q ts os = awl P (.seq (.region f26r36) f26b35) Q ts os := id rfl
def f26 : AQ := f26b37
theorem uf26 (P ts os Q) : awl P f26 Q ts os = awl P f26b37 Q ts os := id rfl
theorem hf26 : cFunc Try.prog 26 = some ⟨37, f26.erase, [(RX.t 2)]⟩ := by kernel_rfl
theorem okf26 : f26.ok = true := by kernel_rfl
/-! ### function 27 -/
def f27r1 : List AI := [⟨none, (.mov 42 (.t 3))⟩, ⟨none, (.call (some 43) 50 [(.t 42)])⟩, ⟨none, (.mov 2 (.t 43))⟩]
theorem uf27r1 : type_of% @f27r1.eq_1 := id @f27r1.eq_1
def f27b2 : AQ := (.seq (.region f27r1) .ret)
theorem uf27b2 (P ts os Q) : awl P f27b2 Q ts os = awl P (.seq (.region f27r1) .ret) Q ts os := id rfl
def f27r3 : List AI := [⟨none, (.mov 40 (.t 3))⟩, ⟨none, (.call (some 41) 49 [(.t 40)])⟩]
theorem uf27r3 : type_of% @f27r3.eq_1 := id @f27r3.eq_1
def f27b4 : AQ := (.seq (.region f27r3) f27b2)
theorem uf27b4 (P ts os Q) : awl P f27b4 Q ts os = awl P (.seq (.region f27r3) f27b2) Q ts os := id rfl
def f27r5 : List AI := [⟨none, (.bin 39 .add (.t 10) (.v (.k (.c (.int .i64 1)))))⟩, ⟨none, (.mov 10 (.t 39))⟩]
theorem uf27r5 : type_of% @f27r5.eq_1 := id @f27r5.eq_1
def f27r6 : List AI := [⟨none, (.mov 34 (.t 3))⟩, ⟨none, (.faddr 35 0 (.t 5))⟩, ⟨none, (.load 36 1 false (.t 35))⟩, ⟨none, (.bslice 37 3 1 [(.int .i64 0)] 1 [(0, (.t 36))])⟩, ⟨none, (.append 38 3 1 8 (.t 34) (.t 37))⟩, ⟨none, (.mov 3 (.t 38))⟩]
theorem uf27r6 : type_of% @f27r6.eq_1 := id @f27r6.eq_1
def f27b7 : AQ := (.cond (.t 33) (.region f27r6) .skip)
theorem uf27b7 (P ts os Q) : awl P f27b7 Q ts os = awl P (.cond (.t 33) (.region f27r6) .skip) Q ts os := id rfl
def f27r8 : List AI := [⟨none, (.mov 27 (.t 6))⟩, ⟨none, (.mov 28 (.t 27))⟩, ⟨(some (28, true)), (.faddr 29 1 (.t 5))⟩, ⟨(some (28, true)), (.load 30 3 true (.t 29))⟩, ⟨(some (28, true)), (.call (some 31) 35 [(.t 30)])⟩, ⟨(some (28, true)), (.call (some 32) 52 [(.t 31), (.v (.k (.c (.fn 53 []))))])⟩, ⟨none, (.pick 33 (.t 28) (.t 32) (.v (.k (.c (.bool false)))))⟩]
theorem uf27r8 : type_of% @f27r8.eq_1 := id @f27r8.eq_1
def f27b9 : AQ := (.seq (.region f27r8) f27b7)
theorem uf27b9 (P ts os Q) : awl P f27b9 Q ts os = awl P (.seq (.region f27r8) f27b7) Q ts os := id rfl
def f27r10 : List AI := [⟨none, (.faddr 14 0 (.t 5))⟩, ⟨none, (.load 15 1 false (.t 14))⟩, ⟨none, (.bin 16 .eql (.t 15) (.v (.k (.c (.int .i64 0)))))⟩, ⟨none, (.mov 17 (.t 16))⟩, ⟨(some (17, false)), (.faddr 18 0 (.t 5))⟩, ⟨(some (17, false)), (.load 19 1 false (.t 18))⟩, ⟨(some (17, false)), (.bin 20 .eql (.t 19) (.v (.k (.c (.int .i64 6)))))⟩, ⟨none, (.pick 21 (.t 17) (.v (.k (.c (.bool true)))) (.t 20))⟩, ⟨none, (.mov 22 (.t 21))⟩, ⟨(some (22, false)), (.faddr 23 0 (.t 5))⟩, ⟨(some (22, false)), (.load 24 1 false (.t 23))⟩, ⟨(some (22, false)), (.bin 25 .eql (.t 24) (.v (.k (.c (.int .i64 7)))))⟩, ⟨none, (.pick 26 (.t 22) (.v (.k (.c (.bool true)))) (.t 25))⟩, ⟨none, (.mov 6 (.t 26))⟩]
theorem uf27r10 : type_of% @f27r10.eq_1 := id @f27r10.eq_1
def f27b11 : AQ := (.seq (.region f27r10) f27b9)
theorem uf27b11 (P ts os Q) : awl P f27b11 Q ts os = awl P (.seq (.region f27r10) f27b9) Q ts os := id rfl
def f27r12 : List AI := [⟨none, (.iaddr 12 4 (.t 8) (.t 10))⟩, ⟨none, (.load 13 4 true (.t 12))⟩, ⟨none, (.alloc 5 43 [(.int .i64 0), (.int .i64 0), (.int .i64 0), (.list 0 (some true) [])])⟩, ⟨none, (.store 4 (.t 5) (.t 13))⟩]
theorem uf27r12 : type_of% @f27r12.eq_1 := id @f27r12.eq_1
def f27b13 : AQ := (.seq (.region f27r12) f27b11)
theorem uf27b13 (P ts os Q) : awl P f27b13 Q ts os = awl P (.seq (.region f27r12) f27b11) Q ts os := id rfl
def f27b14 : AQ := (.block 1 f27b13)
theorem uf27b14 (P ts os Q) : awl P f27b14 Q ts os = awl P (.block 1 f27b13) Q ts os := id rfl
def f27b15 : AQ := (.seq f27b14 (.region f27r5))
theorem uf27b15 (P ts os Q) : awl P f27b15 Q ts os = awl P (.seq f27b14 (.region f27r5)) Q ts os := id rfl
def f27b16 : AQ := (.cond (.t 11) .skip (.exit 0))
theorem uf27b16 (P ts os Q) : awl P f27b16 Q ts os = awl P (.cond (.t 11) .skip (.exit 0)) Q ts os := id rfl
def f27b17 : AQ := (.seq f27b16 f27b15)
theorem uf27b17 (P ts os Q) : awl P f27b17 Q ts os = awl P (.seq f27b16 f27b15) Q ts os := id rfl
def f27r18 : List AI := [⟨none, (.bin 11 .lss (.t 10) (.t 9))⟩]
theorem uf27r18 : type_of% @f27r18.eq_1 := id @f27r18.eq_1
def f27b19 : AQ := (.seq (.region f27r18) f27b17)
theorem uf27b19 (P ts os Q) : awl P f27b19 Q ts os = awl P (.seq (.region f27r18) f27b17) Q ts os := id rfl
def f27l20 : AQ := .loop [3, 8, 9, 10] [3, 38] f27b19
theorem uf27l20 (P ts os Q) : awl P f27l20 Q ts os = awl P (.loop [3, 8, 9, 10] [3, 38] f27b19) Q ts os := id rfl
def f27b21 : AQ := (.block 0 f27l20)
theorem uf27b21 (P ts os Q) : awl P f27b21 Q ts os = awl P (.block 0 f27l20) Q ts os := id rfl
def f27r22 : List AI := [⟨none, (.faddr 7 3 (.t 1))⟩, ⟨none, (.load 8 1 false (.t 7))⟩, ⟨none, (.len 9 (.t 8))⟩, ⟨none, (.mov 10 (.v (.k (.c (.int .i64 0)))))⟩]
theorem uf27r22 : type_of% @f27r22.eq_1 := id @f27r22.eq_1
def f27b23 : AQ := (.seq (.region f27r22) f27b21)
theorem uf27b23 (P ts os Q) : awl P f27b23 Q ts os = awl P (.seq (.region f27r22) f27b21) Q ts os := id rfl
def f27b24 : AQ := (.seq f27b23 f27b4)
theorem uf27b24 (P ts os Q) : awl P f27b24 Q ts os = awl P (.seq f27b23 f27b4) Q ts os := id rfl
def f27r25 : List AI := [⟨none, (.nilL 3 3 1)⟩]
theorem uf27r25 : type_of% @f27r25.eq_1 := id @f27r25.eq_1
def f27b26 : AQ := (.seq (.region f27r25) f27b24)
theorem uf27b26 (P ts os Q) : awl P f27b26 Q ts os = awl P (.seq (.region f27r25) f27b24) Q ts os := id rfl
def f27r27 : List AI := [⟨none, (.box 1 25 (.t 0))⟩, ⟨none, (.nilL 2 3 1)⟩]
theorem uf27r27 : type_of% @f27r27.eq_1 := id @f27r27.eq_1
def f27b28 : AQ := (.seq (.region f27r27) f27b26)
theorem uf27b28 (P ts os Q) : awl P f27b28 Q ts os = awl P (.seq (.region f27r27) f27b26) Q ts os := id rfl
def f27 : AQ := f27b28
theorem uf27 (P ts os Q) : awl P f27 Q ts os = awl P f27b28 Q ts os := id rfl
theorem hf27 : cFunc Try.prog 27 = some ⟨44, f27.erase, [(RX.t 2)]⟩ := by kernel_rfl
theorem okf27 : f27.ok = true := by kernel_rfl
/-! ### function 28 -/
def f28r1 : List AI := [⟨none, (.mov 69 (.t 3))⟩, ⟨none, (.mov 2 (.t 69))⟩]
theorem uf28r1 : type_of% @f28r1.eq_1 := id @f28r1.eq_1
def f28b2 : AQ := (.seq (.region f28r1) .ret)
theorem uf28b2 (P ts os Q) : awl P f28b2 Q ts os = awl P (.seq (.region f28r1) .ret) Q ts os := id rfl
def f28r3 : List AI := [⟨none, (.mov 12 (.t 4))⟩, ⟨none, (.bin 13 .add (.t 12) (.v (.k (.c (.int .i64 1)))))⟩, ⟨none, (.mov 4 (.t 13))⟩]
theorem uf28r3 : type_of% @f28r3.eq_1 := id @f28r3.eq_1
def f28r4 : List AI := [⟨none, (.mov 65 (.t 3))⟩, ⟨none, (.mov 66 (.t 4))⟩, ⟨none, (.bslice 67 3 1 [(.int .i64 0)] 1 [(0, (.t 66))])⟩, ⟨none, (.append 68 3 1 8 (.t 65) (.t 67))⟩, ⟨none, (.mov 3 (.t 68))⟩]
theorem uf28r4 : type_of% @f28r4.eq_1 := id @f28r4.eq_1
def f28b5 : AQ := (.cond (.t 64) (.region f28r4) .skip)
theorem uf28b5 (P ts os Q) : awl P f28b5 Q ts os = awl P (.cond (.t 64) (.region f28r4) .skip) Q ts os := id rfl
def f28r6 : List AI := [⟨none, (.mov 52 (.t 5))⟩, ⟨none, (.mov 53 (.t 52))⟩, ⟨(some (53, true)), (.mov 54 (.t 4))⟩, ⟨(some (53, true)), (.bin 55 .eql (.t 54) (.v (.k (.c (.int .i64 0)))))⟩, ⟨(some (53, true)), (.mov 56 (.t 55))⟩, ⟨(some (56, false)), (.mov 57 (.t 4))⟩, ⟨(some (56, false)), (.bin 58 .eql (.t 57) (.v (.k (.c (.int .i64 6)))))⟩, ⟨(some (53, true)), (.pick 59 (.t 56) (.v (.k (.c (.bool true)))) (.t 58))⟩, ⟨(some (53, true)), (.mov 60 (.t 59))⟩, ⟨(some (60, false)), (.mov 61 (.t 4))⟩, ⟨(some (60, false)), (.bin 62 .eql (.t 61) (.v (.k (.c (.int .i64 7)))))⟩, ⟨(some (53, true)), (.pick 63 (.t 60) (.v (.k (.c (.bool true)))) (.t 62))⟩, ⟨none, (.pick 64 (.t 53) (.t 63) (.v (.k (.c (.bool false)))))⟩]
theorem uf28r6 : type_of% @f28r6.eq_1 := id @f28r6.eq_1
def f28b7 : AQ := (.seq (.region f28r6) f28b5)
theorem uf28b7 (P ts os Q) : awl P f28b7 Q ts os = awl P (.seq (.region f28r6) f28b5) Q ts os := id rfl
def f28r8 : List AI := [⟨none, (.mov 19 (.t 6))⟩, ⟨none, (.bin 20 .add (.t 19) (.v (.k (.c (.int .i64 1)))))⟩, ⟨none, (.mov 6 (.t 20))⟩]
theorem uf28r8 : type_of% @f28r8.eq_1 := id @f28r8.eq_1
def f28r9 : List AI := [⟨none, (.mov 32 (.t 8))⟩, ⟨none, (.bin 33 .add (.t 32) (.v (.k (.c (.int .i64 1)))))⟩, ⟨none, (.mov 8 (.t 33))⟩]
theorem uf28r9 : type_of% @f28r9.eq_1 := id @f28r9.eq_1
def f28r10 : List AI := [⟨none, (.mov 34 (.t 5))⟩, ⟨none, (.mov 35 (.t 34))⟩, ⟨(some (35, false)), (.faddr 36 3 (.t 1))⟩, ⟨(some (35, false)), (.load 37 1 false (.t 36))⟩, ⟨(some (35, false)), (.mov 38 (.t 6))⟩, ⟨(some (35, false)), (.iaddr 39 4 (.t 37) (.t 38))⟩, ⟨(some (35, false)), (.faddr 40 0 (.t 39))⟩, ⟨(some (35, false)), (.load 41 1 false (.t 40))⟩, ⟨(some (35, false)), (.mov 42 (.t 4))⟩, ⟨(some (35, false)), (.bin 43 .eql (.t 41) (.t 42))⟩, ⟨(some (35, false)), (.mov 44 (.t 43))⟩, ⟨(some (44, true)), (.mov 45 (.t 7))⟩, ⟨(some (44, true)), (.mov 46 (.t 8))⟩, ⟨(some (44, true)), (.iaddr 47 1 (.t 45) (.t 46))⟩, ⟨(some (44, true)), (.load 48 1 false (.t 47))⟩, ⟨(some (44, true)), (.bin 49 .geq (.t 48) (.v (.k (.c (.int .i64 15)))))⟩, ⟨(some (35, false)), (.pick 50 (.t 44) (.t 49) (.v (.k (.c (.bool false)))))⟩, ⟨none, (.pick 51 (.t 35) (.v (.k (.c (.bool true)))) (.t 50))⟩, ⟨none, (.mov 5 (.t 51))⟩]
theorem uf28r10 : type_of% @f28r10.eq_1 := id @f28r10.eq_1
def f28b11 : AQ := (.block 5 (.region f28r10))
theorem uf28b11 (P ts os Q) : awl P f28b11 Q ts os = awl P (.block 5 (.region f28r10)) Q ts os := id rfl
def f28b12 : AQ := (.seq f28b11 (.region f28r9))
theorem uf28b12 (P ts os Q) : awl P f28b12 Q ts os = awl P (.seq f28b11 (.region f28r9)) Q ts os := id rfl
def f28b13 : AQ := (.cond (.t 31) .skip (.exit 4))
theorem uf28b13 (P ts os Q) : awl P f28b13 Q ts os = awl P (.cond (.t 31) .skip (.exit 4)) Q ts os := id rfl
def f28r14 : List AI := [⟨none, (.mov 28 (.t 8))⟩, ⟨none, (.mov 29 (.t 7))⟩, ⟨none, (.len 30 (.t 29))⟩, ⟨none, (.bin 31 .lss (.t 28) (.t 30))⟩]
theorem uf28r14 : type_of% @f28r14.eq_1 := id @f28r14.eq_1
def f28b15 : AQ := (.seq (.region f28r14) f28b13)
theorem uf28b15 (P ts os Q) : awl P f28b15 Q ts os = awl P (.seq (.region f28r14) f28b13) Q ts os := id rfl
def f28b16 : AQ := (.seq f28b15 f28b12)
theorem uf28b16 (P ts os Q) : awl P f28b16 Q ts os = awl P (.seq f28b15 f28b12) Q ts os := id rfl
def f28l17 : AQ := .loop [1, 3, 4, 5, 6, 7, 8] [1, 9, 27, 68, 28000, 28001, 28002] f28b16
theorem uf28l17 (P ts os Q) : awl P f28l17 Q ts os = awl P (.loop [1, 3, 4, 5, 6, 7, 8] [1, 9, 27, 68, 28000, 28001, 28002] f28b16) Q ts os := id rfl
def f28b18 : AQ := (.block 4 f28l17)
theorem uf28b18 (P ts os Q) : awl P f28b18 Q ts os = awl P (.block 4 f28l17) Q ts os := id rfl
def f28r19 : List AI := [⟨none, (.mov 8 (.v (.k (.c (.int .i64 0)))))⟩]
theorem uf28r19 : type_of% @f28r19.eq_1 := id @f28r19.eq_1
def f28b20 : AQ := (.seq (.region f28r19) f28b18)
theorem uf28b20 (P ts os Q) : awl P f28b20 Q ts os = awl P (.seq (.region f28r19) f28b18) Q ts os := id rfl
def f28r21 : List AI := [⟨none, (.faddr 21 3 (.t 1))⟩, ⟨none, (.load 22 1 false (.t 21))⟩, ⟨none, (.mov 23 (.t 6))⟩, ⟨none, (.iaddr 24 4 (.t 22) (.t 23))⟩, ⟨none, (.faddr 25 1 (.t 24))⟩, ⟨none, (.load 26 3 true (.t 25))⟩, ⟨none, (.call (some 27) 36 [(.t 26)])⟩, ⟨none, (.mov 7 (.t 27))⟩]
theorem uf28r21 : type_of% @f28r21.eq_1 := id @f28r21.eq_1
def f28b22 : AQ := (.seq (.region f28r21) f28b20)
theorem uf28b22 (P ts os Q) : awl P f28b22 Q ts os = awl P (.seq (.region f28r21) f28b20) Q ts os := id rfl
def f28b23 : AQ := (.block 3 f28b22)
theorem uf28b23 (P ts os Q) : awl P f28b23 Q ts os = awl P (.block 3 f28b22) Q ts os := id rfl
def f28b24 : AQ := (.seq f28b23 (.region f28r8))
theorem uf28b24 (P ts os Q) : awl P f28b24 Q ts os = awl P (.seq f28b23 (.region f28r8)) Q ts os := id rfl
def f28b25 : AQ := (.cond (.t 18) .skip (.exit 2))
theorem uf28b25 (P ts os Q) : awl P f28b25 Q ts os = awl P (.cond (.t 18) .skip (.exit 2)) Q ts os := id rfl
def f28r26 : List AI := [⟨none, (.mov 14 (.t 6))⟩, ⟨none, (.faddr 15 3 (.t 1))⟩, ⟨none, (.load 16 1 false (.t 15))⟩, ⟨none, (.len 17 (.t 16))⟩, ⟨none, (.bin 18 .lss (.t 14) (.t 17))⟩]
theorem uf28r26 : type_of% @f28r26.eq_1 := id @f28r26.eq_1
def f28b27 : AQ := (.seq (.region f28r26) f28b25)
theorem uf28b27 (P ts os Q) : awl P f28b27 Q ts os = awl P (.seq (.region f28r26) f28b25) Q ts os := id rfl
def f28b28 : AQ := (.seq f28b27 f28b24)
theorem uf28b28 (P ts os Q) : awl P f28b28 Q ts os = awl P (.seq f28b27 f28b24) Q ts os := id rfl
def f28l29 : AQ := .loop [1, 3, 4, 5, 6] [1, 9, 68] f28b28
theorem uf28l29 (P ts os Q) : awl P f28l29 Q ts os = awl P (.loop [1, 3, 4, 5, 6] [1, 9, 68] f28b28) Q ts os := id rfl
def f28b30 : AQ := (.block 2 f28l29)
theorem uf28b30 (P ts os Q) : awl P f28b30 Q ts os = awl P (.block 2 f28l29) Q ts os := id rfl
def f28r31 : List AI := [⟨none, (.mov 6 (.v (.k (.c (.int .i64 0)))))⟩]
theorem uf28r31 : type_of% @f28r31.eq_1 := id @f28r31.eq_1
def f28b32 : AQ := (.seq (.region f28r31) f28b30)
theorem uf28b32 (P ts os Q) : awl P f28b32 Q ts os = awl P (.seq (.region f28r31) f28b30) Q ts os := id rfl
def f28b33 : AQ := (.seq f28b32 f28b7)
theorem uf28b33 (P ts os Q) : awl P f28b33 Q ts os = awl P (.seq f28b32 f28b7) Q ts os := id rfl
def f28r34 : List AI := [⟨none, (.mov 5 (.v (.k (.c (.bool false)))))⟩]
theorem uf28r34 : type_of% @f28r34.eq_1 := id @f28r34.eq_1
def f28b35 : AQ := (.seq (.region f28r34) f28b33)
theorem uf28b35 (P ts os Q) : awl P f28b35 Q ts os = awl P (.seq (.region f28r34) f28b33) Q ts os := id rfl
def f28b36 : AQ := (.block 1 f28b35)
theorem uf28b36 (P ts os Q) : awl P f28b36 Q ts os = awl P (.block 1 f28b35) Q ts os := id rfl
def f28b37 : AQ := (.seq f28b36 (.region f28r3))
theorem uf28b37 (P ts os Q) : awl P f28b37 Q ts os = awl P (.seq f28b36 (.region f28r3)) Q ts os := id rfl
def f28b38 : AQ := (.cond (.t 11) .skip (.exit 0))
theorem uf28b38 (P ts os Q) : awl P f28b38 Q ts os = awl P (.cond (.t 11) .skip (.exit 0)) Q ts os := id rfl
def f28r39 : List AI := [⟨none, (.mov 10 (.t 4))⟩, ⟨none, (.bin 11 .lss (.t 10) (.v (.k (.c (.int .i64 22)))))⟩]
theorem uf28r39 : type_of% @f28r39.eq_1 := id @f28r39.eq_1
def f28b40 : AQ := (.seq (.region f28r39) f28b38)
theorem uf28b40 (P ts os Q) : awl P f28b40 Q ts os = awl P (.seq (.region f28r39) f28b38) Q ts os := id rfl
def f28b41 : AQ := (.seq f28b40 f28b37)
theorem uf28b41 (P ts os Q) : awl P f28b41 Q ts os = awl P (.seq f28b40 f28b37) Q ts os := id rfl
def f28l42 : AQ := .loop [1, 3, 4] [1, 9, 68] f28b41
theorem uf28l42 (P ts os Q) : awl P f28l42 Q ts os = awl P (.loop [1, 3, 4] [1, 9, 68] f28b41) Q ts os := id rfl
def f28b43 : AQ := (.block 0 f28l42)
theorem uf28b43 (P ts os Q) : awl P f28b43 Q ts os = awl P (.block 0 f28l42) Q ts os := id rfl
def f28r44 : List AI := [⟨none, (.mov 4 (.v (.k (.c (.int .i64 0)))))⟩]
theorem uf28r44 : type_of% @f28r44.eq_1 := id @f28r44.eq_1
def f28b45 : AQ := (.seq (.region f28r44) f28b43)
theorem uf28b45 (P ts os Q) : awl P f28b45 Q ts os = awl P (.seq (.region f28r44) f28b43) Q ts os := id rfl
def f28b46 : AQ := (.seq f28b45 f28b2)
theorem uf28b46 (P ts os Q) : awl P f28b46 Q ts os = awl P (.seq f28b45 f28b2) Q ts os := id rfl
def f28r47 : List AI := [⟨none, (.bslice 9 3 1 [(.int .i64 0)] 0 [])⟩, ⟨none, (.mov 3 (.t 9))⟩]
theorem uf28r47 : type_of% @f28r47.eq_1 := id @f28r47.eq_1
def f28b48 : AQ := (.seq (.region f28r47) f28b46)
theorem uf28b48 (P ts os Q) : awl P f28b48 Q ts os = awl P (.seq (.region f28r47) f28b46) Q ts os := id rfl
def f28r49 : List AI := [⟨none, (.box 1 25 (.t 0))⟩, ⟨none, (.nilL 2 3 1)⟩]
theorem uf28r49 : type_of% @f28r49.eq_1 := id @f28r49.eq_1
def f28b50 : AQ := (.seq (.region f28r49) f28b48)
theorem uf28b50 (P ts os Q) : awl P f28b50 Q ts os = awl P (.seq (.region f28r49) f28b48) Q ts os := id rfl
def f28 : AQ := f28b50
theorem uf28 (P ts os Q) : awl P f28 Q ts os = awl P f28b50 Q ts os := id rfl
theorem hf28 : cFunc Try.prog 28 = some ⟨70, f28.erase, [(RX.t 2)]⟩ := by kernel_rfl
theorem okf28 : f28.ok = true := by kernel_rfl
/-! ### function 30 -/
def f30r1 : List AI := [⟨none, (.load 3 3 true (.t 1))⟩, ⟨none, (.call (some 4) 58 [(.t 3), (.v (.k (.c (.int .i64 100)))), (.v (.k (.c (.int .i64 20))))])⟩, ⟨none, (.bin 5 .geq (.t 4) (.v (.k (.c (.int .i64 0)))))⟩, ⟨none, (.mov 2 (.t 5))⟩]
theorem uf30r1 : type_of% @f30r1.eq_1 := id @f30r1.eq_1
def f30b2 : AQ := (.seq (.region f30r1) .ret)
theorem uf30b2 (P ts os Q) : awl P f30b2 Q ts os = awl P (.seq (.region f30r1) .ret) Q ts os := id rfl
def f30r3 : List AI := [⟨none, (.box 1 41 (.t 0))⟩, ⟨none, (.mov 2 (.v (.k (.c (.bool false)))))⟩]
theorem uf30r3 : type_of% @f30r3.eq_1 := id @f30r3.eq_1
def f30b4 : AQ := (.seq (.region f30r3) f30b2)
theorem uf30b4 (P ts os Q) : awl P f30b4 Q ts os = awl P (.seq (.region f30r3) f30b2) Q ts os := id rfl
def f30 : AQ := f30b4
theorem uf30 (P ts os Q) : awl P f30 Q ts os = awl P f30b4 Q ts os := id rfl
theorem hf30 : cFunc Try.prog 30 = some ⟨6, f30.erase, [(RX.t 2)]⟩ := by kernel_rfl
theorem okf30 : f30.ok = true := by kernel_rfl
/-! ### function 31 -/
def f31r1 : List AI := [⟨none, (.load 7 3 true (.t 1))⟩, ⟨none, (.call (some 8) 60 [(.t 7)])⟩, ⟨none, (.extr 9 (.t 8) 0)⟩, ⟨none, (.extr 10 (.t 8) 1)⟩, ⟨none, (.mov 2 (.t 9))⟩, ⟨none, (.mov 3 (.t 10))⟩]
theorem uf31r1 : type_of% @f31r1.eq_1 := id @f31r1.eq_1
def f31b2 : AQ := (.seq (.region f31r1) .ret)
theorem uf31b2 (P ts os Q) : awl P f31b2 Q ts os = awl P (.seq (.region f31r1) .ret) Q ts os := id rfl
def f31r3 : List AI := [⟨none, (.mov 2 (.v (.k (.c (.int .i64 0)))))⟩, ⟨none, (.mov 3 (.v (.k (.c (.int .i64 6)))))⟩]
theorem uf31r3 : type_of% @f31r3.eq_1 := id @f31r3.eq_1
def f31b4 : AQ := (.seq (.region f31r3) .ret)
theorem uf31b4 (P ts os Q) : awl P f31b4 Q ts os = awl P (.seq (.region f31r3) .ret) Q ts os := id rfl
def f31b5 : AQ := (.cond (.t 6) f31b4 .skip)
theorem uf31b5 (P ts os Q) : awl P f31b5 Q ts os = awl P (.cond (.t 6) f31b4 .skip) Q ts os := id rfl
def f31r6 : List AI := [⟨none, (.load 4 3 true (.t 1))⟩, ⟨none, (.call (some 5) 59 [(.t 4), (.v (.k (.c (.int .i64 1))))])⟩, ⟨none, (.bin 6 .gtr (.t 5) (.v (.k (.c (.int .i64 60)))))⟩]
theorem uf31r6 : type_of% @f31r6.eq_1 := id @f31r6.eq_1
def f31b7 : AQ := (.seq (.region f31r6) f31b5)
theorem uf31b7 (P ts os Q) : awl P f31b7 Q ts os = awl P (.seq (.region f31r6) f31b5) Q ts os := id rfl
def f31b8 : AQ := (.seq f31b7 f31b2)
theorem uf31b8 (P ts os Q) : awl P f31b8 Q ts os = awl P (.seq f31b7 f31b2) Q ts os := id rfl
def f31r9 : List AI := [⟨none, (.box 1 41 (.t 0))⟩, ⟨none, (.mov 2 (.v (.k (.c (.int .i64 0)))))⟩, ⟨none, (.mov 3 (.v (.k (.c (.int .i64 0)))))⟩]
theorem uf31r9 : type_of% @f31r9.eq_1 := id @f31r9.eq_1
def f31b10 : AQ := (.seq (.region f31r9) f31b8)
theorem uf31b10 (P ts os Q) : awl P f31b10 Q ts os = awl P (.seq (.region f31r9) f31b8) Q ts os := id rfl
def f31 : AQ := f31b10
theorem uf31 (P ts os Q) : awl P f31 Q ts os = awl P f31b10 Q ts os := id rfl
theorem hf31 : cFunc Try.prog 31 = some ⟨11, f31.erase, [(RX.t 2), (RX.t 3)]⟩ := by kernel_rfl
theorem okf31 : f31.ok = true := by kernel_rfl
/-! ### function 32 -/
def f32r1 : List AI := [⟨none, (.load 7 3 true (.t 1))⟩, ⟨none, (.call (some 8) 61 [(.t 7)])⟩, ⟨none, (.extr 9 (.t 8) 0)⟩, ⟨none, (.extr 10 (.t 8) 1)⟩, ⟨none, (.mov 2 (.t 9))⟩, ⟨none, (.mov 3 (.t 10))⟩]
theorem uf32r1 : type_of% @f32r1.eq_1 := id @f32r1.eq_1
def f32b2 : AQ := (.seq (.region f32r1) .ret)
theorem uf32b2 (P ts os Q) : awl P f32b2 Q ts os = awl P (.seq (.region f32r1) .ret) Q ts os := id rfl
def f32r3 : List AI := [⟨none, (.mov 2 (.v (.k (.c (.int .i64 0)))))⟩, ⟨none, (.mov 3 (.v (.k (.c (.int .i64 6)))))⟩]
theorem uf32r3 : type_of% @f32r3.eq_1 := id @f32r3.eq_1
def f32b4 : AQ := (.seq (.region f32r3) .ret)
theorem uf32b4 (P ts os Q) : awl P f32b4 Q ts os = awl P (.seq (.region f32r3) .ret) Q ts os := id rfl
def f32b5 : AQ := (.cond (.t 6) f32b4 .skip)
theorem uf32b5 (P ts os Q) : awl P f32b5 Q ts os = awl P (.cond (.t 6) f32b4 .skip) Q ts os := id rfl
def f32r6 : List AI := [⟨none, (.load 4 3 true (.t 1))⟩, ⟨none, (.call (some 5) 58 [(.t 4), (.v (.k (.c (.int .i64 60)))), (.v (.k (.c (.int .i64 8))))])⟩, ⟨none, (.bin 6 .lss (.t 5) (.v (.k (.c (.int .i64 0)))))⟩]
theorem uf32r6 : type_of% @f32r6.eq_1 := id @f32r6.eq_1
def f32b7 : AQ := (.seq (.region f32r6) f32b5)
theorem uf32b7 (P ts os Q) : awl P f32b7 Q ts os = awl P (.seq (.region f32r6) f32b5) Q ts os := id rfl
def f32b8 : AQ := (.seq f32b7 f32b2)
theorem uf32b8 (P ts os Q) : awl P f32b8 Q ts os = awl P (.seq f32b7 f32b2) Q ts os := id rfl
def f32r9 : List AI := [⟨none, (.box 1 41 (.t 0))⟩, ⟨none, (.mov 2 (.v (.k (.c (.int .i64 0)))))⟩, ⟨none, (.mov 3 (.v (.k (.c (.int .i64 0)))))⟩]
theorem uf32r9 : type_of% @f32r9.eq_1 := id @f32r9.eq_1
def f32b10 : AQ := (.seq (.region f32r9) f32b8)
theorem uf32b10 (P ts os Q) : awl P f32b10 Q ts os = awl P (.seq (.region f32r9) f32b8) Q ts os := id rfl
def f32 : AQ := f32b10
theorem uf32 (P ts os Q) : awl P f32 Q ts os = awl P f32b10 Q ts os := id rfl
theorem hf32 : cFunc Try.prog 32 = some ⟨11, f32.erase, [(RX.t 2), (RX.t 3)]⟩ := by kernel_rfl
theorem okf32 : f32.ok = true := by kernel_rfl
/-! ### function 33 -/
def f33r1 : List AI := [⟨none, (.mov 2 (.v (.k (.c (.int .i64 1)))))⟩, ⟨none, (.mov 3 (.v (.k (.c (.bool true)))))⟩]
theorem uf33r1 : type_of% @f33r1.eq_1 := id @f33r1.eq_1
def f33b2 : AQ := (.seq (.region f33r1) .ret)
theorem uf33b2 (P ts os Q) : awl P f33b2 Q ts os = awl P (.seq (.region f33r1) .ret) Q ts os := id rfl
def f33r3 : List AI := [⟨none, (.mov 2 (.v (.k (.c (.int .i64 0)))))⟩, ⟨none, (.mov 3 (.v (.k (.c (.bool false)))))⟩]
theorem uf33r3 : type_of% @f33r3.eq_1 := id @f33r3.eq_1
def f33b4 : AQ := (.seq (.region f33r3) .ret)
theorem uf33b4 (P ts os Q) : awl P f33b4 Q ts os = awl P (.seq (.region f33r3) .ret) Q ts os := id rfl
def f33r5 : List AI := [⟨none, (.mov 2 (.v (.k (.c (.int .i64 0)))))⟩, ⟨none, (.mov 3 (.v (.k (.c (.bool true)))))⟩]
theorem uf33r5 : type_of% @f33r5.eq_1 := id @f33r5.eq_1
def f33b6 : AQ := (.seq (.region f33r5) .ret)
theorem uf33b6 (P ts os Q) : awl P f33b6 Q ts os = awl P (.seq (.region f33r5) .ret) Q ts os := id rfl
def f33b7 : AQ := (.cond (.t 11) f33b6 .skip)
theorem uf33b7 (P ts os Q) : awl P f33b7 Q ts os = awl P (.cond (.t 11) f33b6 .skip) Q ts os := id rfl
def f33r8 : List AI := [⟨none, (.mov 12 (.t 0))⟩, ⟨none, (.bin 13 .lss (.t 12) (.v (.k (.c (.int .i64 7)))))⟩, ⟨none, (.mov 11 (.t 13))⟩]
theorem uf33r8 : type_of% @f33r8.eq_1 := id @f33r8.eq_1
def f33b9 : AQ := (.seq (.region f33r8) f33b7)
theorem uf33b9 (P ts os Q) : awl P f33b9 Q ts os = awl P (.seq (.region f33r8) f33b7) Q ts os := id rfl
def f33b10 : AQ := (.cond (.t 4) f33b4 f33b9)
theorem uf33b10 (P ts os Q) : awl P f33b10 Q ts os = awl P (.cond (.t 4) f33b4 f33b9) Q ts os := id rfl
def f33r11 : List AI := [⟨none, (.mov 5 (.t 0))⟩, ⟨none, (.bin 6 .lss (.t 5) (.v (.k (.c (.int .i64 0)))))⟩, ⟨none, (.mov 7 (.t 6))⟩, ⟨(some (7, false)), (.mov 8 (.t 0))⟩, ⟨(some (7, false)), (.bin 9 .gtr (.t 8) (.v (.k (.c (.int .i64 19)))))⟩, ⟨none, (.pick 10 (.t 7) (.v (.k (.c (.bool true)))) (.t 9))⟩, ⟨none, (.mov 4 (.t 10))⟩]
theorem uf33r11 : type_of% @f33r11.eq_1 := id @f33r11.eq_1
def f33b12 : AQ := (.seq (.region f33r11) f33b10)
theorem uf33b12 (P ts os Q) : awl P f33b12 Q ts os = awl P (.seq (.region f33r11) f33b10) Q ts os := id rfl
def f33b13 : AQ := (.block 0 f33b12)
theorem uf33b13 (P ts os Q) : awl P f33b13 Q ts os = awl P (.block 0 f33b12) Q ts os := id rfl
def f33b14 : AQ := (.seq f33b13 f33b2)
theorem uf33b14 (P ts os Q) : awl P f33b14 Q ts os = awl P (.seq f33b13 f33b2) Q ts os := id rfl
def f33r15 : List AI := [⟨none, (.mov 2 (.v (.k (.c (.int .i64 0)))))⟩, ⟨none, (.mov 3 (.v (.k (.c (.bool false)))))⟩]
theorem uf33r15 : type_of% @f33r15.eq_1 := id @f33r15.eq_1
def f33b16 : AQ := (.seq (.region f33r15) f33b14)
theorem uf33b16 (P ts os Q) : awl P f33b16 Q ts os = awl P (.seq (.region f33r15) f33b14) Q ts os := id rfl
def f33 : AQ := f33b16
theorem uf33 (P ts os Q) : awl P f33 Q ts os = awl P f33b16 Q ts os := id rfl
theorem hf33 : cFunc Try.prog 33 = some ⟨14, f33.erase, [(RX.t 2), (RX.t 3)]⟩ := by kernel_rfl
theorem okf33 : f33.ok = true := by kernel_rfl
/-! ### function 34 -/
def f34r1 : List AI := [⟨none, (.mov 2 (.v (.k (.c (.int .i64 1)))))⟩, ⟨none, (.mov 3 (.v (.k (.c (.bool true)))))⟩]
theorem uf34r1 : type_of% @f34r1.eq_1 := id @f34r1.eq_1
def f34b2 : AQ := (.seq (.region f34r1) .ret)
theorem uf34b2 (P ts os Q) : awl P f34b2 Q ts os = awl P (.seq (.region f34r1) .ret) Q ts os := id rfl
def f34r3 : List AI := [⟨none, (.mov 2 (.v (.k (.c (.int .i64 0)))))⟩, ⟨none, (.mov 3 (.v (.k (.c (.bool true)))))⟩]
theorem uf34r3 : type_of% @f34r3.eq_1 := id @f34r3.eq_1
def f34b4 : AQ := (.seq (.region f34r3) .ret)
theorem uf34b4 (P ts os Q) : awl P f34b4 Q ts os = awl P (.seq (.region f34r3) .ret) Q ts os := id rfl
def f34b5 : AQ := (.cond (.t 11) f34b4 .skip)
theorem uf34b5 (P ts os Q) : awl P f34b5 Q ts os = awl P (.cond (.t 11) f34b4 .skip) Q ts os := id rfl
def f34r6 : List AI := [⟨none, (.mov 10 (.t 0))⟩, ⟨none, (.bin 11 .leq (.t 10) (.v (.k (.c (.int .i64 6)))))⟩]
theorem uf34r6 : type_of% @f34r6.eq_1 := id @f34r6.eq_1
def f34b7 : AQ := (.seq (.region f34r6) f34b5)
theorem uf34b7 (P ts os Q) : awl P f34b7 Q ts os = awl P (.seq (.region f34r6) f34b5) Q ts os := id rfl
def f34b8 : AQ := (.seq f34b7 f34b2)
theorem uf34b8 (P ts os Q) : awl P f34b8 Q ts os = awl P (.seq f34b7 f34b2) Q ts os := id rfl
def f34r9 : List AI := [⟨none, (.mov 2 (.v (.k (.c (.int .i64 0)))))⟩, ⟨none, (.mov 3 (.v (.k (.c (.bool false)))))⟩]
theorem uf34r9 : type_of% @f34r9.eq_1 := id @f34r9.eq_1
def f34b10 : AQ := (.seq (.region f34r9) .ret)
theorem uf34b10 (P ts os Q) : awl P f34b10 Q ts os = awl P (.seq (.region f34r9) .ret) Q ts os := id rfl
def f34b11 : AQ := (.cond (.t 9) f34b10 .skip)
theorem uf34b11 (P ts os Q) : awl P f34b11 Q ts os = awl P (.cond (.t 9) f34b10 .skip) Q ts os := id rfl
def f34r12 : List AI := [⟨none, (.mov 4 (.t 0))⟩, ⟨none, (.bin 5 .lss (.t 4) (.v (.k (.c (.int .i64 0)))))⟩, ⟨none, (.mov 6 (.t 5))⟩, ⟨(some (6, false)), (.mov 7 (.t 0))⟩, ⟨(some (6, false)), (.bin 8 .geq (.t 7) (.v (.k (.c (.int .i64 20)))))⟩, ⟨none, (.pick 9 (.t 6) (.v (.k (.c (.bool true)))) (.t 8))⟩]
theorem uf34r12 : type_of% @f34r12.eq_1 := id @f34r12.eq_1
def f34b13 : AQ := (.seq (.region f34r12) f34b11)
theorem uf34b13 (P ts os Q) : awl P f34b13 Q ts os = awl P (.seq (.region f34r12) f34b11) Q ts os := id rfl
def f34b14 : AQ := (.seq f34b13 f34b8)
theorem uf34b14 (P ts os Q) : awl P f34b14 Q ts os = awl P (.seq f34b13 f34b8) Q ts os := id rfl
def f34r15 : List AI := [⟨none, (.mov 2 (.v (.k (.c (.int .i64 0)))))⟩, ⟨none, (.mov 3 (.v (.k (.c (.bool false)))))⟩]
theorem uf34r15 : type_of% @f34r15.eq_1 := id @f34r15.eq_1
def f34b16 : AQ := (.seq (.region f34r15) f34b14)
theorem uf34b16 (P ts os Q) : awl P f34b16 Q ts os = awl P (.seq (.region f34r15) f34b14) Q ts os := id rfl
def f34 : AQ := f34b16
theorem uf34 (P ts os Q) : awl P f34 Q ts os = awl P f34b16 Q ts os := id rfl
theorem hf34 : cFunc Try.prog 34 = some ⟨12, f34.erase, [(RX.t 2), (RX.t 3)]⟩ := by kernel_rfl
theorem okf34 : f34.ok = true := by kernel_rfl
/-! ### function 35 -/
def f35r1 : List AI := [⟨none, (.load 20 1 false (.t 5))⟩, ⟨none, (.call (some 21) 50 [(.t 20)])⟩, ⟨none, (.mov 2 (.t 21))⟩]
theorem uf35r1 : type_of% @f35r1.eq_1 := id @f35r1.eq_1
def f35b2 : AQ := (.seq (.region f35r1) .ret)
theorem uf35b2 (P ts os Q) : awl P f35b2 Q ts os = awl P (.seq (.region f35r1) .ret) Q ts os := id rfl
def f35r3 : List AI := [⟨none, (.load 18 1 false (.t 5))⟩, ⟨none, (.call (some 19) 49 [(.t 18)])⟩]
theorem uf35r3 : type_of% @f35r3.eq_1 := id @f35r3.eq_1
def f35b4 : AQ := (.seq (.region f35r3) f35b2)
theorem uf35b4 (P ts os Q) : awl P f35b4 Q ts os = awl P (.seq (.region f35r3) f35b2) Q ts os := id rfl
def f35r5 : List AI := [⟨none, (.load 15 1 false (.t 6))⟩, ⟨none, (.load 16 3 true (.t 1))⟩, ⟨none, (.callv (some 17) (.t 15) [(.t 16)])⟩]
theorem uf35r5 : type_of% @f35r5.eq_1 := id @f35r5.eq_1
def f35b6 : AQ := (.swap 6 1006 (.swap 5 1005 (.seq (.region f35r5) f35b4)))
theorem uf35b6 (P ts os Q) : awl P f35b6 Q ts os = awl P (.swap 6 1006 (.swap 5 1005 (.seq (.region f35r5) f35b4))) Q ts os := id rfl
def f35r7 : List AI := [⟨none, (.mkfn 14 62 [(.t 5), (.t 6)])⟩, ⟨none, (.store 1 (.t 6) (.t 14))⟩]
theorem uf35r7 : type_of% @f35r7.eq_1 := id @f35r7.eq_1
def f35b8 : AQ := (.seq (.region f35r7) f35b6)
theorem uf35b8 (P ts os Q) : awl P f35b8 Q ts os = awl P (.seq (.region f35r7) f35b6) Q ts os := id rfl
def f35r9 : List AI := [⟨none, (.alloc 6 80 [.nilf])⟩]
theorem uf35r9 : type_of% @f35r9.eq_1 := id @f35r9.eq_1
def f35b10 : AQ := (.seq (.region f35r9) f35b8)
theorem uf35b10 (P ts os Q) : awl P f35b10 Q ts os = awl P (.seq (.region f35r9) f35b8) Q ts os := id rfl
def f35r11 : List AI := [⟨none, (.alloc 5 36 [(.list 0 (some true) [])])⟩]
theorem uf35r11 : type_of% @f35r11.eq_1 := id @f35r11.eq_1
def f35b12 : AQ := (.seq (.region f35r11) (.own 5 1000 3 1 f35b10))
theorem uf35b12 (P ts os Q) : awl P f35b12 Q ts os = awl P (.seq (.region f35r11) (.own 5 1000 3 1 f35b10)) Q ts os := id rfl
def f35r13 : List AI := [⟨none, (.nilL 2 3 1)⟩]
theorem uf35r13 : type_of% @f35r13.eq_1 := id @f35r13.eq_1
def f35b14 : AQ := (.seq (.region f35r13) .ret)
theorem uf35b14 (P ts os Q) : awl P f35b14 Q ts os = awl P (.seq (.region f35r13) .ret) Q ts os := id rfl
def f35b15 : AQ := (.cond (.t 13) f35b14 .skip)
theorem uf35b15 (P ts os Q) : awl P f35b15 Q ts os = awl P (.cond (.t 13) f35b14 .skip) Q ts os := id rfl
def f35r16 : List AI := [⟨none, (.mov 12 (.t 4))⟩, ⟨none, (.bin 13 .neq (.t 12) (.v (.k (.c (.int .i64 0)))))⟩]
theorem uf35r16 : type_of% @f35r16.eq_1 := id @f35r16.eq_1
def f35b17 : AQ := (.seq (.region f35r16) f35b15)
theorem uf35b17 (P ts os Q) : awl P f35b17 Q ts os = awl P (.seq (.region f35r16) f35b15) Q ts os := id rfl
def f35r18 : List AI := [⟨none, (.load 8 3 true (.t 1))⟩, ⟨none, (.call (some 9) 31 [(.t 8)])⟩, ⟨none, (.mov 7 (.t 9))⟩, ⟨none, (.extr 10 (.t 7) 0)⟩, ⟨none, (.extr 11 (.t 7) 1)⟩, ⟨none, (.mov 3 (.t 10))⟩, ⟨none, (.mov 4 (.t 11))⟩]
theorem uf35r18 : type_of% @f35r18.eq_1 := id @f35r18.eq_1
def f35b19 : AQ := (.seq (.region f35r18) f35b17)
theorem uf35b19 (P ts os Q) : awl P f35b19 Q ts os = awl P (.seq (.region f35r18) f35b17) Q ts os := id rfl
def f35b20 : AQ := (.seq f35b19 f35b12)
theorem uf35b20 (P ts os Q) : awl P f35b20 Q ts os = awl P (.seq f35b19 f35b12) Q ts os := id rfl
def f35r21 : List AI := [⟨none, (.box 1 41 (.t 0))⟩, ⟨none, (.nilL 2 3 1)⟩]
theorem uf35r21 : type_of% @f35r21.eq_1 := id @f35r21.eq_1
def f35b22 : AQ := (.seq (.region f35r21) f35b20)
theorem uf35b22 (P ts os Q) : awl P f35b22 Q ts os = awl P (.seq (.region f35r21) f35b20) Q ts os := id rfl
def f35 : AQ := f35b22
theorem uf35 (P ts os Q) : awl P f35 Q ts os = awl P f35b22 Q ts os := id rfl
theorem hf35 : cFunc Try.prog 35 = some ⟨22, f35.erase, [(RX.t 2)]⟩ := by kernel_rfl
theorem okf35 : f35.ok = true := by kernel_rfl
/-! ### function 36 -/
def f36r1 : List AI := [⟨none, (.mov 30 (.t 3))⟩, ⟨none, (.mov 2 (.t 30))⟩]
theorem uf36r1 : type_of% @f36r1.eq_1 := id @f36r1.eq_1
def f36b2 : AQ := (.seq (.region f36r1) .ret)
theorem uf36b2 (P ts os Q) : awl P f36b2 Q ts os = awl P (.seq (.region f36r1) .ret) Q ts os := id rfl
def f36r3 : List AI := [⟨none, (.mov 20 (.t 6))⟩, ⟨none, (.bin 21 .add (.t 20) (.v (.k (.c (.int .i64 1)))))⟩, ⟨none, (.mov 6 (.t 21))⟩]
theorem uf36r3 : type_of% @f36r3.eq_1 := id @f36r3.eq_1
def f36r4 : List AI := [⟨none, (.mov 26 (.t 3))⟩, ⟨none, (.mov 27 (.t 6))⟩, ⟨none, (.bslice 28 3 1 [(.int .i64 0)] 1 [(0, (.t 27))])⟩, ⟨none, (.append 29 3 1 8 (.t 26) (.t 28))⟩, ⟨none, (.mov 3 (.t 29))⟩]
theorem uf36r4 : type_of% @f36r4.eq_1 := id @f36r4.eq_1
def f36b5 : AQ := (.cond (.t 25) (.region f36r4) .skip)
theorem uf36b5 (P ts os Q) : awl P f36b5 Q ts os = awl P (.cond (.t 25) (.region f36r4) .skip) Q ts os := id rfl
def f36r6 : List AI := [⟨none, (.mov 25 (.t 7))⟩]
theorem uf36r6 : type_of% @f36r6.eq_1 := id @f36r6.eq_1
def f36b7 : AQ := (.seq (.region f36r6) f36b5)
theorem uf36b7 (P ts os Q) : awl P f36b7 Q ts os = awl P (.seq (.region f36r6) f36b5) Q ts os := id rfl
def f36r8 : List AI := [⟨none, (.load 22 3 true (.t 1))⟩, ⟨none, (.mov 23 (.t 6))⟩, ⟨none, (.call (some 24) 63 [(.t 22), (.t 23)])⟩, ⟨none, (.mov 7 (.t 24))⟩]
theorem uf36r8 : type_of% @f36r8.eq_1 := id @f36r8.eq_1
def f36b9 : AQ := (.seq (.region f36r8) f36b7)
theorem uf36b9 (P ts os Q) : awl P f36b9 Q ts os = awl P (.seq (.region f36r8) f36b7) Q ts os := id rfl
def f36b10 : AQ := (.block 1 f36b9)
theorem uf36b10 (P ts os Q) : awl P f36b10 Q ts os = awl P (.block 1 f36b9) Q ts os := id rfl
def f36b11 : AQ := (.seq f36b10 (.region f36r3))
theorem uf36b11 (P ts os Q) : awl P f36b11 Q ts os = awl P (.seq f36b10 (.region f36r3)) Q ts os := id rfl
def f36b12 : AQ := (.cond (.t 19) .skip (.exit 0))
theorem uf36b12 (P ts os Q) : awl P f36b12 Q ts os = awl P (.cond (.t 19) .skip (.exit 0)) Q ts os := id rfl
def f36r13 : List AI := [⟨none, (.mov 14 (.t 6))⟩, ⟨none, (.bin 15 .lss (.t 14) (.v (.k (.c (.int .i64 20)))))⟩, ⟨none, (.mov 16 (.t 15))⟩, ⟨(some (16, true)), (.mov 17 (.t 5))⟩, ⟨(some (16, true)), (.bin 18 .eql (.t 17) (.v (.k (.c (.int .i64 0)))))⟩, ⟨none, (.pick 19 (.t 16) (.t 18) (.v (.k (.c (.bool false)))))⟩]
theorem uf36r13 : type_of% @f36r13.eq_1 := id @f36r13.eq_1
def f36b14 : AQ := (.seq (.region f36r13) f36b12)
theorem uf36b14 (P ts os Q) : awl P f36b14 Q ts os = awl P (.seq (.region f36r13) f36b12) Q ts os := id rfl
def f36b15 : AQ := (.seq f36b14 f36b11)
theorem uf36b15 (P ts os Q) : awl P f36b15 Q ts os = awl P (.seq f36b14 f36b11) Q ts os := id rfl
def f36l16 : AQ := .loop [1, 3, 5, 6] [1, 8, 29] f36b15
theorem uf36l16 (P ts os Q) : awl P f36l16 Q ts os = awl P (.loop [1, 3, 5, 6] [1, 8, 29] f36b15) Q ts os := id rfl
def f36b17 : AQ := (.block 0 f36l16)
theorem uf36b17 (P ts os Q) : awl P f36b17 Q ts os = awl P (.block 0 f36l16) Q ts os := id rfl
def f36r18 : List AI := [⟨none, (.mov 6 (.v (.k (.c (.int .i64 0)))))⟩]
theorem uf36r18 : type_of% @f36r18.eq_1 := id @f36r18.eq_1
def f36b19 : AQ := (.seq (.region f36r18) f36b17)
theorem uf36b19 (P ts os Q) : awl P f36b19 Q ts os = awl P (.seq (.region f36r18) f36b17) Q ts os := id rfl
def f36b20 : AQ := (.seq f36b19 f36b2)
theorem uf36b20 (P ts os Q) : awl P f36b20 Q ts os = awl P (.seq f36b19 f36b2) Q ts os := id rfl
def f36r21 : List AI := [⟨none, (.load 10 3 true (.t 1))⟩, ⟨none, (.call (some 11) 32 [(.t 10)])⟩, ⟨none, (.mov 9 (.t 11))⟩, ⟨none, (.extr 12 (.t 9) 0)⟩, ⟨none, (.extr 13 (.t 9) 1)⟩, ⟨none, (.mov 4 (.t 12))⟩, ⟨none, (.mov 5 (.t 13))⟩]
theorem uf36r21 : type_of% @f36r21.eq_1 := id @f36r21.eq_1
def f36b22 : AQ := (.seq (.region f36r21) f36b20)
theorem uf36b22 (P ts os Q) : awl P f36b22 Q ts os = awl P (.seq (.region f36r21) f36b20) Q ts os := id rfl
def f36r23 : List AI := [⟨none, (.bslice 8 3 1 [(.int .i64 0)] 0 [])⟩, ⟨none, (.mov 3 (.t 8))⟩]
theorem uf36r23 : type_of% @f36r23.eq_1 := id @f36r23.eq_1
def f36b24 : AQ := (.seq (.region f36r23) f36b22)
theorem uf36b24 (P ts os Q) : awl P f36b24 Q ts os = awl P (.seq (.region f36r23) f36b22) Q ts os := id rfl
def f36r25 : List AI := [⟨none, (.box 1 41 (.t 0))⟩, ⟨none, (.nilL 2 3 1)⟩]
theorem uf36r25 : type_of% @f36r25.eq_1 := id @f36r25.eq_1
def f36b26 : AQ := (.seq (.region f36r25) f36b24)
theorem uf36b26 (P ts os Q) : awl P f36b26 Q ts os = awl P (.seq (.region f36r25) f36b24) Q ts os := id rfl
def f36 : AQ := f36b26
theorem uf36 (P ts os Q) : awl P f36 Q ts os = awl P f36b26 Q ts os := id rfl
theorem hf36 : cFunc Try.prog 36 = some ⟨31, f36.erase, [(RX.t 2)]⟩ := by kernel_rfl
theorem okf36 : f36.ok = true := by kernel_rfl
/-! ### function 42 -/
def f42r1 : List AI := [⟨none, (.mov 4 (.v (.k (.c (.bool false)))))⟩]
theorem uf42r1 : type_of% @f42r1.eq_1 := id @f42r1.eq_1
def f42b2 : AQ := (.seq (.region f42r1) .ret)
theorem uf42b2 (P ts os Q) : awl P f42b2 Q ts os = awl P (.seq (.region f42r1) .ret) Q ts os := id rfl
def f42r3 : List AI := [⟨none, (.mov 10 (.t 5))⟩, ⟨none, (.bin 11 .add (.t 10) (.v (.k (.c (.int .i64 1)))))⟩, ⟨none, (.mov 5 (.t 11))⟩]
theorem uf42r3 : type_of% @f42r3.eq_1 := id @f42r3.eq_1
def f42r4 : List AI := [⟨none, (.mov 4 (.v (.k (.c (.bool true)))))⟩]
theorem uf42r4 : type_of% @f42r4.eq_1 := id @f42r4.eq_1
def f42b5 : AQ := (.seq (.region f42r4) .ret)
theorem uf42b5 (P ts os Q) : awl P f42b5 Q ts os = awl P (.seq (.region f42r4) .ret) Q ts os := id rfl
def f42b6 : AQ := (.cond (.t 17) f42b5 .skip)
theorem uf42b6 (P ts os Q) : awl P f42b6 Q ts os = awl P (.cond (.t 17) f42b5 .skip) Q ts os := id rfl
def f42r7 : List AI := [⟨none, (.mov 12 (.t 0))⟩, ⟨none, (.mov 13 (.t 5))⟩, ⟨none, (.iaddr 14 1 (.t 12) (.t 13))⟩, ⟨none, (.load 15 1 false (.t 14))⟩, ⟨none, (.mov 16 (.t 1))⟩, ⟨none, (.bin 17 .eql (.t 15) (.t 16))⟩]
theorem uf42r7 : type_of% @f42r7.eq_1 := id @f42r7.eq_1
def f42b8 : AQ := (.seq (.region f42r7) f42b6)
theorem uf42b8 (P ts os Q) : awl P f42b8 Q ts os = awl P (.seq (.region f42r7) f42b6) Q ts os := id rfl
def f42b9 : AQ := (.block 1 f42b8)
theorem uf42b9 (P ts os Q) : awl P f42b9 Q ts os = awl P (.block 1 f42b8) Q ts os := id rfl
def f42b10 : AQ := (.seq f42b9 (.region f42r3))
theorem uf42b10 (P ts os Q) : awl P f42b10 Q ts os = awl P (.seq f42b9 (.region f42r3)) Q ts os := id rfl
def f42b11 : AQ := (.cond (.t 9) .skip (.exit 0))
theorem uf42b11 (P ts os Q) : awl P f42b11 Q ts os = awl P (.cond (.t 9) .skip (.exit 0)) Q ts os := id rfl
def f42r12 : List AI := [⟨none, (.mov 6 (.t 5))⟩, ⟨none, (.mov 7 (.t 0))⟩, ⟨none, (.len 8 (.t 7))⟩, ⟨none, (.bin 9 .lss (.t 6) (.t 8))⟩]
theorem uf42r12 : type_of% @f42r12.eq_1 := id @f42r12.eq_1
def f42b13 : AQ := (.seq (.region f42r12) f42b11)
theorem uf42b13 (P ts os Q) : awl P f42b13 Q ts os = awl P (.seq (.region f42r12) f42b11) Q ts os := id rfl
def f42b14 : AQ := (.seq f42b13 f42b10)
theorem uf42b14 (P ts os Q) : awl P f42b14 Q ts os = awl P (.seq f42b13 f42b10) Q ts os := id rfl
def f42l15 : AQ := .loop [0, 1, 5] [] f42b14
theorem uf42l15 (P ts os Q) : awl P f42l15 Q ts os = awl P (.loop [0, 1, 5] [] f42b14) Q ts os := id rfl
def f42b16 : AQ := (.block 0 f42l15)
theorem uf42b16 (P ts os Q) : awl P f42b16 Q ts os = awl P (.block 0 f42l15) Q ts os := id rfl
def f42r17 : List AI := [⟨none, (.mov 5 (.v (.k (.c (.int .i64 0)))))⟩]
theorem uf42r17 : type_of% @f42r17.eq_1 := id @f42r17.eq_1
def f42b18 : AQ := (.seq (.region f42r17) f42b16)
theorem uf42b18 (P ts os Q) : awl P f42b18 Q ts os = awl P (.seq (.region f42r17) f42b16) Q ts os := id rfl
def f42b19 : AQ := (.seq f42b18 f42b2)
theorem uf42b19 (P ts os Q) : awl P f42b19 Q ts os = awl P (.seq f42b18 f42b2) Q ts os := id rfl
def f42r20 : List AI := [⟨none, (.mov 4 (.v (.k (.c (.bool false)))))⟩]
theorem uf42r20 : type_of% @f42r20.eq_1 := id @f42r20.eq_1
def f42b21 : AQ := (.seq (.region f42r20) f42b19)
theorem uf42b21 (P ts os Q) : awl P f42b21 Q ts os = awl P (.seq (.region f42r20) f42b19) Q ts os := id rfl
def f42 : AQ := f42b21
theorem uf42 (P ts os Q) : awl P f42 Q ts os = awl P f42b21 Q ts os := id rfl
theorem hf42 : cFunc Try.prog 42 = some ⟨18, f42.erase, [(RX.t 4)]⟩ := by kernel_rfl
theorem okf42 : f42.ok = true := by kernel_rfl
/-! ### function 44 -/
def f44r1 : List AI := [⟨none, (.load 20 22 true (.t 1))⟩, ⟨none, (.store 22 (.t 0) (.t 20))⟩]
theorem uf44r1 : type_of% @f44r1.eq_1 := id @f44r1.eq_1
def f44b2 : AQ := (.seq (.region f44r1) .ret)
theorem uf44b2 (P ts os Q) : awl P f44b2 Q ts os = awl P (.seq (.region f44r1) .ret) Q ts os := id rfl
def f44r3 : List AI := [⟨none, (.bin 19 .add (.t 13) (.v (.k (.c (.int .i64 1)))))⟩, ⟨none, (.mov 13 (.t 19))⟩]
theorem uf44r3 : type_of% @f44r3.eq_1 := id @f44r3.eq_1
def f44r4 : List AI := [⟨none, (.mov 17 (.t 4))⟩, ⟨none, (.iaddrA 18 1 22 (.t 1) (.t 17))⟩, ⟨none, (.store 1 (.t 18) (.v (.k (.c (.int .i64 0)))))⟩]
theorem uf44r4 : type_of% @f44r4.eq_1 := id @f44r4.eq_1
def f44r5 : List AI := [⟨none, (.iaddr 15 1 (.t 11) (.t 13))⟩, ⟨none, (.load 16 1 false (.t 15))⟩, ⟨none, (.mov 4 (.t 16))⟩]
theorem uf44r5 : type_of% @f44r5.eq_1 := id @f44r5.eq_1
def f44b6 : AQ := (.seq (.region f44r5) (.region f44r4))
theorem uf44b6 (P ts os Q) : awl P f44b6 Q ts os = awl P (.seq (.region f44r5) (.region f44r4)) Q ts os := id rfl
def f44b7 : AQ := (.block 3 f44b6)
theorem uf44b7 (P ts os Q) : awl P f44b7 Q ts os = awl P (.block 3 f44b6) Q ts os := id rfl
def f44b8 : AQ := (.seq f44b7 (.region f44r3))
theorem uf44b8 (P ts os Q) : awl P f44b8 Q ts os = awl P (.seq f44b7 (.region f44r3)) Q ts os := id rfl
def f44b9 : AQ := (.cond (.t 14) .skip (.exit 2))
theorem uf44b9 (P ts os Q) : awl P f44b9 Q ts os = awl P (.cond (.t 14) .skip (.exit 2)) Q ts os := id rfl
def f44b10 : AQ := (.seq f44b9 f44b8)
theorem uf44b10 (P ts os Q) : awl P f44b10 Q ts os = awl P (.seq f44b9 f44b8) Q ts os := id rfl
def f44r11 : List AI := [⟨none, (.bin 14 .lss (.t 13) (.t 12))⟩]
theorem uf44r11 : type_of% @f44r11.eq_1 := id @f44r11.eq_1
def f44b12 : AQ := (.seq (.region f44r11) f44b10)
theorem uf44b12 (P ts os Q) : awl P f44b12 Q ts os = awl P (.seq (.region f44r11) f44b10) Q ts os := id rfl
def f44l13 : AQ := .loop [0, 1, 11, 12, 13] [0, 1, 11] f44b12
theorem uf44l13 (P ts os Q) : awl P f44l13 Q ts os = awl P (.loop [0, 1, 11, 12, 13] [0, 1, 11] f44b12) Q ts os := id rfl
def f44b14 : AQ := (.block 2 f44l13)
theorem uf44b14 (P ts os Q) : awl P f44b14 Q ts os = awl P (.block 2 f44l13) Q ts os := id rfl
def f44r15 : List AI := [⟨none, (.bslice 11 3 1 [(.int .i64 0)] 10 [(0, (.v (.k (.c (.int .i64 6))))), (1, (.v (.k (.c (.int .i64 7))))), (2, (.v (.k (.c (.int .i64 10))))), (3, (.v (.k (.c (.int .i64 12))))), (4, (.v (.k (.c (.int .i64 13))))), (5, (.v (.k (.c (.int .i64 14))))), (6, (.v (.k (.c (.int .i64 15))))), (7, (.v (.k (.c (.int .i64 16))))), (8, (.v (.k (.c (.int .i64 20))))), (9, (.v (.k (.c (.int .i64 21)))))])⟩, ⟨none, (.len 12 (.t 11))⟩, ⟨none, (.mov 13 (.v (.k (.c (.int .i64 0)))))⟩]
theorem uf44r15 : type_of% @f44r15.eq_1 := id @f44r15.eq_1
def f44b16 : AQ := (.seq (.region f44r15) f44b14)
theorem uf44b16 (P ts os Q) : awl P f44b16 Q ts os = awl P (.seq (.region f44r15) f44b14) Q ts os := id rfl
def f44b17 : AQ := (.seq f44b16 f44b2)
theorem uf44b17 (P ts os Q) : awl P f44b17 Q ts os = awl P (.seq f44b16 f44b2) Q ts os := id rfl
def f44r18 : List AI := [⟨none, (.bin 10 .add (.t 5) (.v (.k (.c (.int .i64 1)))))⟩, ⟨none, (.mov 5 (.t 10))⟩]
theorem uf44r18 : type_of% @f44r18.eq_1 := id @f44r18.eq_1
def f44r19 : List AI := [⟨none, (.mov 8 (.t 2))⟩, ⟨none, (.iaddrA 9 1 22 (.t 1) (.t 8))⟩, ⟨none, (.store 1 (.t 9) (.v (.k (.c (.int .i64 1)))))⟩]
theorem uf44r19 : type_of% @f44r19.eq_1 := id @f44r19.eq_1
def f44r20 : List AI := [⟨none, (.mov 7 (.t 5))⟩, ⟨none, (.mov 2 (.t 7))⟩]
theorem uf44r20 : type_of% @f44r20.eq_1 := id @f44r20.eq_1
def f44b21 : AQ := (.seq (.region f44r20) (.region f44r19))
theorem uf44b21 (P ts os Q) : awl P f44b21 Q ts os = awl P (.seq (.region f44r20) (.region f44r19)) Q ts os := id rfl
def f44b22 : AQ := (.block 1 f44b21)
theorem uf44b22 (P ts os Q) : awl P f44b22 Q ts os = awl P (.block 1 f44b21) Q ts os := id rfl
def f44b23 : AQ := (.seq f44b22 (.region f44r18))
theorem uf44b23 (P ts os Q) : awl P f44b23 Q ts os = awl P (.seq f44b22 (.region f44r18)) Q ts os := id rfl
def f44b24 : AQ := (.cond (.t 6) .skip (.exit 0))
theorem uf44b24 (P ts os Q) : awl P f44b24 Q ts os = awl P (.cond (.t 6) .skip (.exit 0)) Q ts os := id rfl
def f44b25 : AQ := (.seq f44b24 f44b23)
theorem uf44b25 (P ts os Q) : awl P f44b25 Q ts os = awl P (.seq f44b24 f44b23) Q ts os := id rfl
def f44r26 : List AI := [⟨none, (.bin 6 .lss (.t 5) (.v (.k (.c (.int .i64 22)))))⟩]
theorem uf44r26 : type_of% @f44r26.eq_1 := id @f44r26.eq_1
def f44b27 : AQ := (.seq (.region f44r26) f44b25)
theorem uf44b27 (P ts os Q) : awl P f44b27 Q ts os = awl P (.seq (.region f44r26) f44b25) Q ts os := id rfl
def f44l28 : AQ := .loop [0, 1, 5] [0, 1] f44b27
theorem uf44l28 (P ts os Q) : awl P f44l28 Q ts os = awl P (.loop [0, 1, 5] [0, 1] f44b27) Q ts os := id rfl
def f44b29 : AQ := (.block 0 f44l28)
theorem uf44b29 (P ts os Q) : awl P f44b29 Q ts os = awl P (.block 0 f44l28) Q ts os := id rfl
def f44r30 : List AI := [⟨none, (.mov 5 (.v (.k (.c (.int .i64 0)))))⟩]
theorem uf44r30 : type_of% @f44r30.eq_1 := id @f44r30.eq_1
def f44b31 : AQ := (.seq (.region f44r30) f44b29)
theorem uf44b31 (P ts os Q) : awl P f44b31 Q ts os = awl P (.seq (.region f44r30) f44b29) Q ts os := id rfl
def f44b32 : AQ := (.seq f44b31 f44b17)
theorem uf44b32 (P ts os Q) : awl P f44b32 Q ts os = awl P (.seq f44b31 f44b17) Q ts os := id rfl
def f44r33 : List AI := [⟨none, (.alloc 1 65 [(.int .i64 0), (.int .i64 0), (.int .i64 0), (.int .i64 0), (.int .i64 0), (.int .i64 0), (.int .i64 0), (.int .i64 0), (.int .i64 0), (.int .i64 0), (.int .i64 0), (.int .i64 0), (.int .i64 0), (.int .i64 0), (.int .i64 0), (.int .i64 0), (.int .i64 0), (.int .i64 0), (.int .i64 0), (.int .i64 0), (.int .i64 0), (.int .i64 0)])⟩]
theorem uf44r33 : type_of% @f44r33.eq_1 := id @f44r33.eq_1
def f44b34 : AQ := (.seq (.region f44r33) f44b32)
theorem uf44b34 (P ts os Q) : awl P f44b34 Q ts os = awl P (.seq (.region f44r33) f44b32) Q ts os := id rfl
def f44r35 : List AI := [⟨none, (.alloc 0 65 [(.int .i64 0), (.int .i64 0), (.int .i64 0), (.int .i64 0), (.int .i64 0), (.int .i64 0), (.int .i64 0), (.int .i64 0), (.int .i64 0), (.int .i64 0), (.int .i64 0), (.int .i64 0), (.int .i64 0), (.int .i64 0), (.int .i64 0), (.int .i64 0), (.int .i64 0), (.int .i64 0), (.int .i64 0), (.int .i64 0), (.int .i64 0), (.int .i64 0)])⟩]
theorem uf44r35 : type_of% @f44r35.eq_1 := id @f44r35.eq_1
def f44b36 : AQ := (.seq (.region f44r35) f44b34)
theorem uf44b36 (P ts os Q) : awl P f44b36 Q ts os = awl P (.seq (.region f44r35) f44b34) Q ts os := id rfl
def f44 : AQ := f44b36
theorem uf44 (P ts os Q) : awl P f44 Q ts os = awl P f44b36 Q ts os := id rfl
theorem hf44 : cFunc Try.prog 44 = some ⟨21, f44.erase, [(RX.cell 0 22 true)]⟩ := by kernel_rfl
theorem okf44 : f44.ok = true := by kernel_rfl
/-! ### function 45 -/
def f45r1 : List AI := [⟨none, (.mov 5 (.t 1))⟩, ⟨none, (.mov 6 (.t 0))⟩, ⟨none, (.bin 7 .gtr (.t 5) (.t 6))⟩, ⟨none, (.mov 8 (.t 7))⟩, ⟨(some (8, true)), (.mov 9 (.t 1))⟩, ⟨(some (8, true)), (.bin 10 .lss (.t 9) (.v (.k (.c (.int .i64 22)))))⟩, ⟨none, (.pick 11 (.t 8) (.t 10) (.v (.k (.c (.bool false)))))⟩, ⟨none, (.mov 4 (.t 11))⟩]
theorem uf45r1 : type_of% @f45r1.eq_1 := id @f45r1.eq_1
def f45b2 : AQ := (.seq (.region f45r1) .ret)
theorem uf45b2 (P ts os Q) : awl P f45b2 Q ts os = awl P (.seq (.region f45r1) .ret) Q ts os := id rfl
def f45r3 : List AI := [⟨none, (.mov 4 (.v (.k (.c (.bool false)))))⟩]
theorem uf45r3 : type_of% @f45r3.eq_1 := id @f45r3.eq_1
def f45b4 : AQ := (.seq (.region f45r3) f45b2)
theorem uf45b4 (P ts os Q) : awl P f45b4 Q ts os = awl P (.seq (.region f45r3) f45b2) Q ts os := id rfl
def f45 : AQ := f45b4
theorem uf45 (P ts os Q) : awl P f45 Q ts os = awl P f45b4 Q ts os := id rfl
theorem hf45 : cFunc Try.prog 45 = some ⟨12, f45.erase, [(RX.t 4)]⟩ := by kernel_rfl
theorem okf45 : f45.ok = true := by kernel_rfl
/-! ### function 46 -/
def f46r1 : List AI := [⟨none, (.mov 5 (.t 0))⟩, ⟨none, (.mov 6 (.t 1))⟩, ⟨none, (.call (some 7) 67 [(.t 5), (.t 6)])⟩, ⟨none, (.bin 8 .geq (.t 7) (.v (.k (.c (.int .i64 0)))))⟩, ⟨none, (.mov 4 (.t 8))⟩]
theorem uf46r1 : type_of% @f46r1.eq_1 := id @f46r1.eq_1
def f46b2 : AQ := (.seq (.region f46r1) .ret)
theorem uf46b2 (P ts os Q) : awl P f46b2 Q ts os = awl P (.seq (.region f46r1) .ret) Q ts os := id rfl
def f46r3 : List AI := [⟨none, (.mov 4 (.v (.k (.c (.bool false)))))⟩]
theorem uf46r3 : type_of% @f46r3.eq_1 := id @f46r3.eq_1
def f46b4 : AQ := (.seq (.region f46r3) f46b2)
theorem uf46b4 (P ts os Q) : awl P f46b4 Q ts os = awl P (.seq (.region f46r3) f46b2) Q ts os := id rfl
def f46 : AQ := f46b4
theorem uf46 (P ts os Q) : awl P f46 Q ts os = awl P f46b4 Q ts os := id rfl
theorem hf46 : cFunc Try.prog 46 = some ⟨9, f46.erase, [(RX.t 4)]⟩ := by kernel_rfl
theorem okf46 : f46.ok = true := by kernel_rfl
/-! ### function 47 -/
def f47r1 : List AI := [⟨none, (.faddr 4 0 (.t 2))⟩, ⟨none, (.load 5 1 false (.t 4))⟩, ⟨none, (.load 6 1 false (.t 1))⟩, ⟨none, (.bin 7 .eql (.t 5) (.t 6))⟩, ⟨none, (.mov 3 (.t 7))⟩]
theorem uf47r1 : type_of% @f47r1.eq_1 := id @f47r1.eq_1
def f47b2 : AQ := (.seq (.region f47r1) .ret)
theorem uf47b2 (P ts os Q) : awl P f47b2 Q ts os = awl P (.seq (.region f47r1) .ret) Q ts os := id rfl
def f47r3 : List AI := [⟨none, (.box 2 43 (.t 0))⟩, ⟨none, (.mov 3 (.v (.k (.c (.bool false)))))⟩]
theorem uf47r3 : type_of% @f47r3.eq_1 := id @f47r3.eq_1
def f47b4 : AQ := (.seq (.region f47r3) f47b2)
theorem uf47b4 (P ts os Q) : awl P f47b4 Q ts os = awl P (.seq (.region f47r3) f47b2) Q ts os := id rfl
def f47 : AQ := f47b4
theorem uf47 (P ts os Q) : awl P f47 Q ts os = awl P f47b4 Q ts os := id rfl
theorem hf47 : cFunc Try.prog 47 = some ⟨8, f47.erase, [(RX.t 3)]⟩ := by kernel_rfl
theorem okf47 : f47.ok = true := by kernel_rfl
/-! ### function 48 -/
def f48r1 : List AI := [⟨none, (.mov 4 (.v (.k (.c (.int .i64 (-1))))))⟩]
theorem uf48r1 : type_of% @f48r1.eq_1 := id @f48r1.eq_1
def f48b2 : AQ := (.seq (.region f48r1) .ret)
theorem uf48b2 (P ts os Q) : awl P f48b2 Q ts os = awl P (.seq (.region f48r1) .ret) Q ts os := id rfl
def f48r3 : List AI := [⟨none, (.mov 11 (.t 5))⟩, ⟨none, (.bin 12 .add (.t 11) (.v (.k (.c (.int .i64 1)))))⟩, ⟨none, (.mov 5 (.t 12))⟩]
theorem uf48r3 : type_of% @f48r3.eq_1 := id @f48r3.eq_1
def f48r4 : List AI := [⟨none, (.mov 21 (.t 5))⟩, ⟨none, (.mov 4 (.t 21))⟩]
theorem uf48r4 : type_of% @f48r4.eq_1 := id @f48r4.eq_1
def f48b5 : AQ := (.seq (.region f48r4) .ret)
theorem uf48b5 (P ts os Q) : awl P f48b5 Q ts os = awl P (.seq (.region f48r4) .ret) Q ts os := id rfl
def f48b6 : AQ := (.cond (.t 20) f48b5 .skip)
theorem uf48b6 (P ts os Q) : awl P f48b6 Q ts os = awl P (.cond (.t 20) f48b5 .skip) Q ts os := id rfl
def f48r7 : List AI := [⟨none, (.faddr 13 3 (.t 2))⟩, ⟨none, (.load 14 1 false (.t 13))⟩, ⟨none, (.mov 15 (.t 5))⟩, ⟨none, (.iaddr 16 4 (.t 14) (.t 15))⟩, ⟨none, (.faddr 17 0 (.t 16))⟩, ⟨none, (.load 18 1 false (.t 17))⟩, ⟨none, (.mov 19 (.t 1))⟩, ⟨none, (.bin 20 .eql (.t 18) (.t 19))⟩]
theorem uf48r7 : type_of% @f48r7.eq_1 := id @f48r7.eq_1
def f48b8 : AQ := (.seq (.region f48r7) f48b6)
theorem uf48b8 (P ts os Q) : awl P f48b8 Q ts os = awl P (.seq (.region f48r7) f48b6) Q ts os := id rfl
def f48b9 : AQ := (.block 1 f48b8)
theorem uf48b9 (P ts os Q) : awl P f48b9 Q ts os = awl P (.block 1 f48b8) Q ts os := id rfl
def f48b10 : AQ := (.seq f48b9 (.region f48r3))
theorem uf48b10 (P ts os Q) : awl P f48b10 Q ts os = awl P (.seq f48b9 (.region f48r3)) Q ts os := id rfl
def f48b11 : AQ := (.cond (.t 10) .skip (.exit 0))
theorem uf48b11 (P ts os Q) : awl P f48b11 Q ts os = awl P (.cond (.t 10) .skip (.exit 0)) Q ts os := id rfl
def f48r12 : List AI := [⟨none, (.mov 6 (.t 5))⟩, ⟨none, (.faddr 7 3 (.t 2))⟩, ⟨none, (.load 8 1 false (.t 7))⟩, ⟨none, (.len 9 (.t 8))⟩, ⟨none, (.bin 10 .lss (.t 6) (.t 9))⟩]
theorem uf48r12 : type_of% @f48r12.eq_1 := id @f48r12.eq_1
def f48b13 : AQ := (.seq (.region f48r12) f48b11)
theorem uf48b13 (P ts os Q) : awl P f48b13 Q ts os = awl P (.seq (.region f48r12) f48b11) Q ts os := id rfl
def f48b14 : AQ := (.seq f48b13 f48b10)
theorem uf48b14 (P ts os Q) : awl P f48b14 Q ts os = awl P (.seq f48b13 f48b10) Q ts os := id rfl
def f48l15 : AQ := .loop [1, 2, 5] [2] f48b14
theorem uf48l15 (P ts os Q) : awl P f48l15 Q ts os = awl P (.loop [1, 2, 5] [2] f48b14) Q ts os := id rfl
def f48b16 : AQ := (.block 0 f48l15)
theorem uf48b16 (P ts os Q) : awl P f48b16 Q ts os = awl P (.block 0 f48l15) Q ts os := id rfl
def f48r17 : List AI := [⟨none, (.mov 5 (.v (.k (.c (.int .i64 0)))))⟩]
theorem uf48r17 : type_of% @f48r17.eq_1 := id @f48r17.eq_1
def f48b18 : AQ := (.seq (.region f48r17) f48b16)
theorem uf48b18 (P ts os Q) : awl P f48b18 Q ts os = awl P (.seq (.region f48r17) f48b16) Q ts os := id rfl
def f48b19 : AQ := (.seq f48b18 f48b2)
theorem uf48b19 (P ts os Q) : awl P f48b19 Q ts os = awl P (.seq f48b18 f48b2) Q ts os := id rfl
def f48r20 : List AI := [⟨none, (.box 2 25 (.t 0))⟩, ⟨none, (.mov 4 (.v (.k (.c (.int .i64 0)))))⟩]
theorem uf48r20 : type_of% @f48r20.eq_1 := id @f48r20.eq_1
def f48b21 : AQ := (.seq (.region f48r20) f48b19)
theorem uf48b21 (P ts os Q) : awl P f48b21 Q ts os = awl P (.seq (.region f48r20) f48b19) Q ts os := id rfl
def f48 : AQ := f48b21
theorem uf48 (P ts os Q) : awl P f48 Q ts os = awl P f48b21 Q ts os := id rfl
theorem hf48 : cFunc Try.prog 48 = some ⟨22, f48.erase, [(RX.t 4)]⟩ := by kernel_rfl
theorem okf48 : f48.ok = true := by kernel_rfl
/-! ### function 51 -/
def f51r1 : List AI := [⟨none, (.mov 4 (.v (.k (.c (.bool false)))))⟩]
theorem uf51r1 : type_of% @f51r1.eq_1 := id @f51r1.eq_1
def f51b2 : AQ := (.seq (.region f51r1) .ret)
theorem uf51b2 (P ts os Q) : awl P f51b2 Q ts os = awl P (.seq (.region f51r1) .ret) Q ts os := id rfl
def f51r3 : List AI := [⟨none, (.mov 10 (.t 5))⟩, ⟨none, (.bin 11 .add (.t 10) (.v (.k (.c (.int .i64 1)))))⟩, ⟨none, (.mov 5 (.t 11))⟩]
theorem uf51r3 : type_of% @f51r3.eq_1 := id @f51r3.eq_1
def f51r4 : List AI := [⟨none, (.mov 4 (.v (.k (.c (.bool true)))))⟩]
theorem uf51r4 : type_of% @f51r4.eq_1 := id @f51r4.eq_1
def f51b5 : AQ := (.seq (.region f51r4) .ret)
theorem uf51b5 (P ts os Q) : awl P f51b5 Q ts os = awl P (.seq (.region f51r4) .ret) Q ts os := id rfl
def f51b6 : AQ := (.cond (.t 17) f51b5 .skip)
theorem uf51b6 (P ts os Q) : awl P f51b6 Q ts os = awl P (.cond (.t 17) f51b5 .skip) Q ts os := id rfl
def f51r7 : List AI := [⟨none, (.mov 12 (.t 0))⟩, ⟨none, (.mov 13 (.t 5))⟩, ⟨none, (.iaddr 14 1 (.t 12) (.t 13))⟩, ⟨none, (.load 15 1 false (.t 14))⟩, ⟨none, (.mov 16 (.t 1))⟩, ⟨none, (.bin 17 .eql (.t 15) (.t 16))⟩]
theorem uf51r7 : type_of% @f51r7.eq_1 := id @f51r7.eq_1
def f51b8 : AQ := (.seq (.region f51r7) f51b6)
theorem uf51b8 (P ts os Q) : awl P f51b8 Q ts os = awl P (.seq (.region f51r7) f51b6) Q ts os := id rfl
def f51b9 : AQ := (.block 1 f51b8)
theorem uf51b9 (P ts os Q) : awl P f51b9 Q ts os = awl P (.block 1 f51b8) Q ts os := id rfl
def f51b10 : AQ := (.seq f51b9 (.region f51r3))
theorem uf51b10 (P ts os Q) : awl P f51b10 Q ts os = awl P (.seq f51b9 (.region f51r3)) Q ts os := id rfl
def f51b11 : AQ := (.cond (.t 9) .skip (.exit 0))
theorem uf51b11 (P ts os Q) : awl P f51b11 Q ts os = awl P (.cond (.t 9) .skip (.exit 0)) Q ts os := id rfl
def f51r12 : List AI := [⟨none, (.mov 6 (.t 5))⟩, ⟨none, (.mov 7 (.t 0))⟩, ⟨none, (.len 8 (.t 7))⟩, ⟨none, (.bin 9 .lss (.t 6) (.t 8))⟩]
theorem uf51r12 : type_of% @f51r12.eq_1 := id @f51r12.eq_1
def f51b13 : AQ := (.seq (.region f51r12) f51b11)
theorem uf51b13 (P ts os Q) : awl P f51b13 Q ts os = awl P (.seq (.region f51r12) f51b11) Q ts os := id rfl
def f51b14 : AQ := (.seq f51b13 f51b10)
theorem uf51b14 (P ts os Q) : awl P f51b14 Q ts os = awl P (.seq f51b13 f51b10) Q ts os := id rfl
def f51l15 : AQ := .loop [0, 1, 5] [] f51b14
theorem uf51l15 (P ts os Q) : awl P f51l15 Q ts os = awl P (.loop [0, 1, 5] [] f51b14) Q ts os := id rfl
def f51b16 : AQ := (.block 0 f51l15)
theorem uf51b16 (P ts os Q) : awl P f51b16 Q ts os = awl P (.block 0 f51l15) Q ts os := id rfl
def f51r17 : List AI := [⟨none, (.mov 5 (.v (.k (.c (.int .i64 0)))))⟩]
theorem uf51r17 : type_of% @f51r17.eq_1 := id @f51r17.eq_1
def f51b18 : AQ := (.seq (.region f51r17) f51b16)
theorem uf51b18 (P ts os Q) : awl P f51b18 Q ts os = awl P (.seq (.region f51r17) f51b16) Q ts os := id rfl
def f51b19 : AQ := (.seq f51b18 f51b2)
theorem uf51b19 (P ts os Q) : awl P f51b19 Q ts os = awl P (.seq f51b18 f51b2) Q ts os := id rfl
def f51r20 : List AI := [⟨none, (.mov 4 (.v (.k (.c (.bool false)))))⟩]
theorem uf51r20 : type_of% @f51r20.eq_1 := id @f51r20.eq_1
def f51b21 : AQ := (.seq (.region f51r20) f51b19)
theorem uf51b21 (P ts os Q) : awl P f51b21 Q ts os = awl P (.seq (.region f51r20) f51b19) Q ts os := id rfl
def f51 : AQ := f51b21
theorem uf51 (P ts os Q) : awl P f51 Q ts os = awl P f51b21 Q ts os := id rfl
theorem hf51 : cFunc Try.prog 51 = some ⟨18, f51.erase, [(RX.t 4)]⟩ := by kernel_rfl
theorem okf51 : f51.ok = true := by kernel_rfl
/-! ### function 52 -/
def f52r1 : List AI := [⟨none, (.mov 5 (.t 0))⟩, ⟨none, (.mov 6 (.t 1))⟩, ⟨none, (.call (some 7) 70 [(.t 5), (.t 6)])⟩, ⟨none, (.bin 8 .geq (.t 7) (.v (.k (.c (.int .i64 0)))))⟩, ⟨none, (.mov 4 (.t 8))⟩]
theorem uf52r1 : type_of% @f52r1.eq_1 := id @f52r1.eq_1
def f52b2 : AQ := (.seq (.region f52r1) .ret)
theorem uf52b2 (P ts os Q) : awl P f52b2 Q ts os = awl P (.seq (.region f52r1) .ret) Q ts os := id rfl
def f52r3 : List AI := [⟨none, (.mov 4 (.v (.k (.c (.bool false)))))⟩]
theorem uf52r3 : type_of% @f52r3.eq_1 := id @f52r3.eq_1
def f52b4 : AQ := (.seq (.region f52r3) f52b2)
theorem uf52b4 (P ts os Q) : awl P f52b4 Q ts os = awl P (.seq (.region f52r3) f52b2) Q ts os := id rfl
def f52 : AQ := f52b4
theorem uf52 (P ts os Q) : awl P f52 Q ts os = awl P f52b4 Q ts os := id rfl
theorem hf52 : cFunc Try.prog 52 = some ⟨9, f52.erase, [(RX.t 4)]⟩ := by kernel_rfl
theorem okf52 : f52.ok = true := by kernel_rfl
/-! ### function 53 -/
def f53r1 : List AI := [⟨none, (.mov 3 (.t 0))⟩, ⟨none, (.bin 4 .geq (.t 3) (.v (.k (.c (.int .i64 15)))))⟩, ⟨none, (.mov 2 (.t 4))⟩]
theorem uf53r1 : type_of% @f53r1.eq_1 := id @f53r1.eq_1
def f53b2 : AQ := (.seq (.region f53r1) .ret)
theorem uf53b2 (P ts os Q) : awl P f53b2 Q ts os = awl P (.seq (.region f53r1) .ret) Q ts os := id rfl
def f53r3 : List AI := [⟨none, (.mov 2 (.v (.k (.c (.bool false)))))⟩]
theorem uf53r3 : type_of% @f53r3.eq_1 := id @f53r3.eq_1
def f53b4 : AQ := (.seq (.region f53r3) f53b2)
theorem uf53b4 (P ts os Q) : awl P f53b4 Q ts os = awl P (.seq (.region f53r3) f53b2) Q ts os := id rfl
def f53 : AQ := f53b4
theorem uf53 (P ts os Q) : awl P f53 Q ts os = awl P f53b4 Q ts os := id rfl
theorem hf53 : cFunc Try.prog 53 = some ⟨5, f53.erase, [(RX.t 2)]⟩ := by kernel_rfl
theorem okf53 : f53.ok = true := by kernel_rfl
/-! ### function 58 -/
def f58r1 : List AI := [⟨none, (.mov 32 (.t 1))⟩, ⟨none, (.mov 6 (.t 32))⟩]
theorem uf58r1 : type_of% @f58r1.eq_1 := id @f58r1.eq_1
def f58b2 : AQ := (.seq (.region f58r1) .ret)
theorem uf58b2 (P ts os Q) : awl P f58b2 Q ts os = awl P (.seq (.region f58r1) .ret) Q ts os := id rfl
def f58r3 : List AI := [⟨none, (.mov 21 (.t 7))⟩, ⟨none, (.bin 22 .add (.t 21) (.v (.k (.c (.int .i64 1)))))⟩, ⟨none, (.mov 7 (.t 22))⟩]
theorem uf58r3 : type_of% @f58r3.eq_1 := id @f58r3.eq_1
def f58r4 : List AI := [⟨none, (.faddr 23 2 (.t 3))⟩, ⟨none, (.load 24 1 false (.t 23))⟩, ⟨none, (.mov 25 (.t 7))⟩, ⟨none, (.iaddr 26 3 (.t 24) (.t 25))⟩, ⟨none, (.load 27 3 true (.t 26))⟩, ⟨none, (.mov 28 (.t 1))⟩, ⟨none, (.mov 29 (.t 2))⟩, ⟨none, (.bin 30 .sub (.t 29) (.v (.k (.c (.int .i64 1)))))⟩, ⟨none, (.call (some 31) 58 [(.t 27), (.t 28), (.t 30)])⟩, ⟨none, (.mov 1 (.t 31))⟩]
theorem uf58r4 : type_of% @f58r4.eq_1 := id @f58r4.eq_1
def f58b5 : AQ := (.block 1 (.region f58r4))
theorem uf58b5 (P ts os Q) : awl P f58b5 Q ts os = awl P (.block 1 (.region f58r4)) Q ts os := id rfl
def f58b6 : AQ := (.seq f58b5 (.region f58r3))
theorem uf58b6 (P ts os Q) : awl P f58b6 Q ts os = awl P (.seq f58b5 (.region f58r3)) Q ts os := id rfl
def f58b7 : AQ := (.cond (.t 20) .skip (.exit 0))
theorem uf58b7 (P ts os Q) : awl P f58b7 Q ts os = awl P (.cond (.t 20) .skip (.exit 0)) Q ts os := id rfl
def f58r8 : List AI := [⟨none, (.mov 12 (.t 7))⟩, ⟨none, (.faddr 13 2 (.t 3))⟩, ⟨none, (.load 14 1 false (.t 13))⟩, ⟨none, (.len 15 (.t 14))⟩, ⟨none, (.bin 16 .lss (.t 12) (.t 15))⟩, ⟨none, (.mov 17 (.t 16))⟩, ⟨(some (17, true)), (.mov 18 (.t 1))⟩, ⟨(some (17, true)), (.bin 19 .geq (.t 18) (.v (.k (.c (.int .i64 0)))))⟩, ⟨none, (.pick 20 (.t 17) (.t 19) (.v (.k (.c (.bool false)))))⟩]
theorem uf58r8 : type_of% @f58r8.eq_1 := id @f58r8.eq_1
def f58b9 : AQ := (.seq (.region f58r8) f58b7)
theorem uf58b9 (P ts os Q) : awl P f58b9 Q ts os = awl P (.seq (.region f58r8) f58b7) Q ts os := id rfl
def f58b10 : AQ := (.seq f58b9 f58b6)
theorem uf58b10 (P ts os Q) : awl P f58b10 Q ts os = awl P (.seq f58b9 f58b6) Q ts os := id rfl
def f58l11 : AQ := .loop [1, 2, 3, 7] [3] f58b10
theorem uf58l11 (P ts os Q) : awl P f58l11 Q ts os = awl P (.loop [1, 2, 3, 7] [3] f58b10) Q ts os := id rfl
def f58b12 : AQ := (.block 0 f58l11)
theorem uf58b12 (P ts os Q) : awl P f58b12 Q ts os = awl P (.block 0 f58l11) Q ts os := id rfl
def f58r13 : List AI := [⟨none, (.mov 7 (.v (.k (.c (.int .i64 0)))))⟩]
theorem uf58r13 : type_of% @f58r13.eq_1 := id @f58r13.eq_1
def f58b14 : AQ := (.seq (.region f58r13) f58b12)
theorem uf58b14 (P ts os Q) : awl P f58b14 Q ts os = awl P (.seq (.region f58r13) f58b12) Q ts os := id rfl
def f58b15 : AQ := (.seq f58b14 f58b2)
theorem uf58b15 (P ts os Q) : awl P f58b15 Q ts os = awl P (.seq f58b14 f58b2) Q ts os := id rfl
def f58r16 : List AI := [⟨none, (.mov 6 (.v (.k (.c (.int .i64 (-1))))))⟩]
theorem uf58r16 : type_of% @f58r16.eq_1 := id @f58r16.eq_1
def f58b17 : AQ := (.seq (.region f58r16) .ret)
theorem uf58b17 (P ts os Q) : awl P f58b17 Q ts os = awl P (.seq (.region f58r16) .ret) Q ts os := id rfl
def f58b18 : AQ := (.cond (.t 11) f58b17 .skip)
theorem uf58b18 (P ts os Q) : awl P f58b18 Q ts os = awl P (.cond (.t 11) f58b17 .skip) Q ts os := id rfl
def f58r19 : List AI := [⟨none, (.mov 10 (.t 2))⟩, ⟨none, (.bin 11 .lss (.t 10) (.v (.k (.c (.int .i64 1)))))⟩]
theorem uf58r19 : type_of% @f58r19.eq_1 := id @f58r19.eq_1
def f58b20 : AQ := (.seq (.region f58r19) f58b18)
theorem uf58b20 (P ts os Q) : awl P f58b20 Q ts os = awl P (.seq (.region f58r19) f58b18) Q ts os := id rfl
def f58b21 : AQ := (.seq f58b20 f58b15)
theorem uf58b21 (P ts os Q) : awl P f58b21 Q ts os = awl P (.seq f58b20 f58b15) Q ts os := id rfl
def f58r22 : List AI := [⟨none, (.mov 8 (.t 1))⟩, ⟨none, (.bin 9 .sub (.t 8) (.v (.k (.c (.int .i64 1)))))⟩, ⟨none, (.mov 1 (.t 9))⟩]
theorem uf58r22 : type_of% @f58r22.eq_1 := id @f58r22.eq_1
def f58b23 : AQ := (.seq (.region f58r22) f58b21)
theorem uf58b23 (P ts os Q) : awl P f58b23 Q ts os = awl P (.seq (.region f58r22) f58b21) Q ts os := id rfl
def f58r24 : List AI := [⟨none, (.box 3 41 (.t 0))⟩, ⟨none, (.mov 6 (.v (.k (.c (.int .i64 0)))))⟩]
theorem uf58r24 : type_of% @f58r24.eq_1 := id @f58r24.eq_1
def f58b25 : AQ := (.seq (.region f58r24) f58b23)
theorem uf58b25 (P ts os Q) : awl P f58b25 Q ts os = awl P (.seq (.region f58r24) f58b23) Q ts os := id rfl
def f58 : AQ := f58b25
theorem uf58 (P ts os Q) : awl P f58 Q ts os = awl P f58b25 Q ts os := id rfl
theorem hf58 : cFunc Try.prog 58 = some ⟨33, f58.erase, [(RX.t 6)]⟩ := by kernel_rfl
theorem okf58 : f58.ok = true := by kernel_rfl
/-! ### function 59 -/
def f59r1 : List AI := [⟨none, (.mov 26 (.t 5))⟩, ⟨none, (.mov 4 (.t 26))⟩]
theorem uf59r1 : type_of% @f59r1.eq_1 := id @f59r1.eq_1
def f59b2 : AQ := (.seq (.region f59r1) .ret)
theorem uf59b2 (P ts os Q) : awl P f59b2 Q ts os = awl P (.seq (.region f59r1) .ret) Q ts os := id rfl
def f59r3 : List AI := [⟨none, (.bin 25 .add (.t 13) (.v (.k (.c (.int .i64 1)))))⟩, ⟨none, (.mov 13 (.t 25))⟩]
theorem uf59r3 : type_of% @f59r3.eq_1 := id @f59r3.eq_1
def f59b4 : AQ := (.cond (.t 24) (.exit 0) .skip)
theorem uf59b4 (P ts os Q) : awl P f59b4 Q ts os = awl P (.cond (.t 24) (.exit 0) .skip) Q ts os := id rfl
def f59r5 : List AI := [⟨none, (.mov 23 (.t 5))⟩, ⟨none, (.bin 24 .gtr (.t 23) (.v (.k (.c (.int .i64 60)))))⟩]
theorem uf59r5 : type_of% @f59r5.eq_1 := id @f59r5.eq_1
def f59b6 : AQ := (.seq (.region f59r5) f59b4)
theorem uf59b6 (P ts os Q) : awl P f59b6 Q ts os = awl P (.seq (.region f59r5) f59b4) Q ts os := id rfl
def f59r7 : List AI := [⟨none, (.mov 17 (.t 5))⟩, ⟨none, (.load 18 3 true (.t 7))⟩, ⟨none, (.mov 19 (.t 1))⟩, ⟨none, (.bin 20 .add (.t 19) (.v (.k (.c (.int .i64 1)))))⟩, ⟨none, (.call (some 21) 59 [(.t 18), (.t 20)])⟩, ⟨none, (.bin 22 .add (.t 17) (.t 21))⟩, ⟨none, (.mov 5 (.t 22))⟩]
theorem uf59r7 : type_of% @f59r7.eq_1 := id @f59r7.eq_1
def f59b8 : AQ := (.seq (.region f59r7) f59b6)
theorem uf59b8 (P ts os Q) : awl P f59b8 Q ts os = awl P (.seq (.region f59r7) f59b6) Q ts os := id rfl
def f59r9 : List AI := [⟨none, (.iaddr 15 3 (.t 11) (.t 13))⟩, ⟨none, (.load 16 3 true (.t 15))⟩, ⟨none, (.alloc 7 41 [(.int .i64 0), (.int .i64 0), (.list 0 (some true) [])])⟩, ⟨none, (.store 3 (.t 7) (.t 16))⟩]
theorem uf59r9 : type_of% @f59r9.eq_1 := id @f59r9.eq_1
def f59b10 : AQ := (.seq (.region f59r9) f59b8)
theorem uf59b10 (P ts os Q) : awl P f59b10 Q ts os = awl P (.seq (.region f59r9) f59b8) Q ts os := id rfl
def f59b11 : AQ := (.block 1 f59b10)
theorem uf59b11 (P ts os Q) : awl P f59b11 Q ts os = awl P (.block 1 f59b10) Q ts os := id rfl
def f59b12 : AQ := (.seq f59b11 (.region f59r3))
theorem uf59b12 (P ts os Q) : awl P f59b12 Q ts os = awl P (.seq f59b11 (.region f59r3)) Q ts os := id rfl
def f59b13 : AQ := (.cond (.t 14) .skip (.exit 0))
theorem uf59b13 (P ts os Q) : awl P f59b13 Q ts os = awl P (.cond (.t 14) .skip (.exit 0)) Q ts os := id rfl
def f59b14 : AQ := (.seq f59b13 f59b12)
theorem uf59b14 (P ts os Q) : awl P f59b14 Q ts os = awl P (.seq f59b13 f59b12) Q ts os := id rfl
def f59r15 : List AI := [⟨none, (.bin 14 .lss (.t 13) (.t 12))⟩]
theorem uf59r15 : type_of% @f59r15.eq_1 := id @f59r15.eq_1
def f59b16 : AQ := (.seq (.region f59r15) f59b14)
theorem uf59b16 (P ts os Q) : awl P f59b16 Q ts os = awl P (.seq (.region f59r15) f59b14) Q ts os := id rfl
def f59l17 : AQ := .loop [1, 5, 11, 12, 13] [] f59b16
theorem uf59l17 (P ts os Q) : awl P f59l17 Q ts os = awl P (.loop [1, 5, 11, 12, 13] [] f59b16) Q ts os := id rfl
def f59b18 : AQ := (.block 0 f59l17)
theorem uf59b18 (P ts os Q) : awl P f59b18 Q ts os = awl P (.block 0 f59l17) Q ts os := id rfl
def f59r19 : List AI := [⟨none, (.faddr 10 2 (.t 2))⟩, ⟨none, (.load 11 1 false (.t 10))⟩, ⟨none, (.len 12 (.t 11))⟩, ⟨none, (.mov 13 (.v (.k (.c (.int .i64 0)))))⟩]
theorem uf59r19 : type_of% @f59r19.eq_1 := id @f59r19.eq_1
def f59b20 : AQ := (.seq (.region f59r19) f59b18)
theorem uf59b20 (P ts os Q) : awl P f59b20 Q ts os = awl P (.seq (.region f59r19) f59b18) Q ts os := id rfl
def f59b21 : AQ := (.seq f59b20 f59b2)
theorem uf59b21 (P ts os Q) : awl P f59b21 Q ts os = awl P (.seq f59b20 f59b2) Q ts os := id rfl
def f59r22 : List AI := [⟨none, (.mov 5 (.v (.k (.c (.int .i64 1)))))⟩]
theorem uf59r22 : type_of% @f59r22.eq_1 := id @f59r22.eq_1
def f59b23 : AQ := (.seq (.region f59r22) f59b21)
theorem uf59b23 (P ts os Q) : awl P f59b23 Q ts os = awl P (.seq (.region f59r22) f59b21) Q ts os := id rfl
def f59r24 : List AI := [⟨none, (.mov 4 (.v (.k (.c (.int .i64 61)))))⟩]
theorem uf59r24 : type_of% @f59r24.eq_1 := id @f59r24.eq_1
def f59b25 : AQ := (.seq (.region f59r24) .ret)
theorem uf59b25 (P ts os Q) : awl P f59b25 Q ts os = awl P (.seq (.region f59r24) .ret) Q ts os := id rfl
def f59b26 : AQ := (.cond (.t 9) f59b25 .skip)
theorem uf59b26 (P ts os Q) : awl P f59b26 Q ts os = awl P (.cond (.t 9) f59b25 .skip) Q ts os := id rfl
def f59r27 : List AI := [⟨none, (.mov 8 (.t 1))⟩, ⟨none, (.bin 9 .gtr (.t 8) (.v (.k (.c (.int .i64 8)))))⟩]
theorem uf59r27 : type_of% @f59r27.eq_1 := id @f59r27.eq_1
def f59b28 : AQ := (.seq (.region f59r27) f59b26)
theorem uf59b28 (P ts os Q) : awl P f59b28 Q ts os = awl P (.seq (.region f59r27) f59b26) Q ts os := id rfl
def f59b29 : AQ := (.seq f59b28 f59b23)
theorem uf59b29 (P ts os Q) : awl P f59b29 Q ts os = awl P (.seq f59b28 f59b23) Q ts os := id rfl
def f59r30 : List AI := [⟨none, (.box 2 41 (.t 0))⟩, ⟨none, (.mov 4 (.v (.k (.c (.int .i64 0)))))⟩]
theorem uf59r30 : type_of% @f59r30.eq_1 := id @f59r30.eq_1
def f59b31 : AQ := (.seq (.region f59r30) f59b29)
theorem uf59b31 (P ts os Q) : awl P f59b31 Q ts os = awl P (.seq (.region f59r30) f59b29) Q ts os := id rfl
def f59 : AQ := f59b31
theorem uf59 (P ts os Q) : awl P f59 Q ts os = awl P f59b31 Q ts os := id rfl
theorem hf59 : cFunc Try.prog 59 = some ⟨27, f59.erase, [(RX.t 4)]⟩ := by kernel_rfl
theorem okf59 : f59.ok = true := by kernel_rfl
/-! ### function 60 -/
def f60r1 : List AI := [⟨none, (.faddr 111 1 (.t 9))⟩, ⟨none, (.load 112 1 false (.t 111))⟩, ⟨none, (.mov 2 (.t 112))⟩, ⟨none, (.mov 3 (.v (.k (.c (.int .i64 0)))))⟩]
theorem uf60r1 : type_of% @f60r1.eq_1 := id @f60r1.eq_1
def f60b2 : AQ := (.seq (.region f60r1) .ret)
theorem uf60b2 (P ts os Q) : awl P f60b2 Q ts os = awl P (.seq (.region f60r1) .ret) Q ts os := id rfl
def f60r3 : List AI := [⟨none, (.mov 110 (.t 10))⟩, ⟨none, (.mov 2 (.t 110))⟩, ⟨none, (.mov 3 (.v (.k (.c (.int .i64 0)))))⟩]
theorem uf60r3 : type_of% @f60r3.eq_1 := id @f60r3.eq_1
def f60b4 : AQ := (.seq (.region f60r3) .ret)
theorem uf60b4 (P ts os Q) : awl P f60b4 Q ts os = awl P (.seq (.region f60r3) .ret) Q ts os := id rfl
def f60b5 : AQ := (.cond (.t 109) f60b4 .skip)
theorem uf60b5 (P ts os Q) : awl P f60b5 Q ts os = awl P (.cond (.t 109) f60b4 .skip) Q ts os := id rfl
def f60r6 : List AI := [⟨none, (.faddr 107 1 (.t 9))⟩, ⟨none, (.load 108 1 false (.t 107))⟩, ⟨none, (.bin 109 .eql (.t 108) (.v (.k (.c (.int .i64 (-1))))))⟩]
theorem uf60r6 : type_of% @f60r6.eq_1 := id @f60r6.eq_1
def f60b7 : AQ := (.seq (.region f60r6) f60b5)
theorem uf60b7 (P ts os Q) : awl P f60b7 Q ts os = awl P (.seq (.region f60r6) f60b5) Q ts os := id rfl
def f60b8 : AQ := (.seq f60b7 f60b2)
theorem uf60b8 (P ts os Q) : awl P f60b8 Q ts os = awl P (.seq f60b7 f60b2) Q ts os := id rfl
def f60r9 : List AI := [⟨none, (.bin 106 .add (.t 82) (.v (.k (.c (.int .i64 1)))))⟩, ⟨none, (.mov 82 (.t 106))⟩]
theorem uf60r9 : type_of% @f60r9.eq_1 := id @f60r9.eq_1
def f60r10 : List AI := [⟨none, (.mov 2 (.v (.k (.c (.int .i64 0)))))⟩, ⟨none, (.mov 3 (.v (.k (.c (.int .i64 11)))))⟩]
theorem uf60r10 : type_of% @f60r10.eq_1 := id @f60r10.eq_1
def f60b11 : AQ := (.seq (.region f60r10) .ret)
theorem uf60b11 (P ts os Q) : awl P f60b11 Q ts os = awl P (.seq (.region f60r10) .ret) Q ts os := id rfl
def f60b12 : AQ := (.cond (.t 105) f60b11 .skip)
theorem uf60b12 (P ts os Q) : awl P f60b12 Q ts os = awl P (.cond (.t 105) f60b11 .skip) Q ts os := id rfl
def f60r13 : List AI := [⟨none, (.mov 100 (.t 4))⟩, ⟨none, (.mov 101 (.t 11))⟩, ⟨none, (.iaddr 102 1 (.t 100) (.t 101))⟩, ⟨none, (.load 103 1 false (.t 102))⟩, ⟨none, (.mov 104 (.t 12))⟩, ⟨none, (.bin 105 .neq (.t 103) (.t 104))⟩]
theorem uf60r13 : type_of% @f60r13.eq_1 := id @f60r13.eq_1
def f60b14 : AQ := (.seq (.region f60r13) f60b12)
theorem uf60b14 (P ts os Q) : awl P f60b14 Q ts os = awl P (.seq (.region f60r13) f60b12) Q ts os := id rfl
def f60r15 : List AI := [⟨none, (.mov 99 (.t 10))⟩, ⟨none, (.mov 12 (.t 99))⟩]
theorem uf60r15 : type_of% @f60r15.eq_1 := id @f60r15.eq_1
def f60b16 : AQ := (.cond (.t 98) (.region f60r15) .skip)
theorem uf60b16 (P ts os Q) : awl P f60b16 Q ts os = awl P (.cond (.t 98) (.region f60r15) .skip) Q ts os := id rfl
def f60r17 : List AI := [⟨none, (.mov 97 (.t 12))⟩, ⟨none, (.bin 98 .eql (.t 97) (.v (.k (.c (.int .i64 (-1))))))⟩]
theorem uf60r17 : type_of% @f60r17.eq_1 := id @f60r17.eq_1
def f60b18 : AQ := (.seq (.region f60r17) f60b16)
theorem uf60b18 (P ts os Q) : awl P f60b18 Q ts os = awl P (.seq (.region f60r17) f60b16) Q ts os := id rfl
def f60b19 : AQ := (.seq f60b18 f60b14)
theorem uf60b19 (P ts os Q) : awl P f60b19 Q ts os = awl P (.seq f60b18 f60b14) Q ts os := id rfl
def f60r20 : List AI := [⟨none, (.mov 93 (.t 4))⟩, ⟨none, (.mov 94 (.t 11))⟩, ⟨none, (.iaddr 95 1 (.t 93) (.t 94))⟩, ⟨none, (.load 96 1 false (.t 95))⟩, ⟨none, (.mov 10 (.t 96))⟩]
theorem uf60r20 : type_of% @f60r20.eq_1 := id @f60r20.eq_1
def f60b21 : AQ := (.cond (.t 92) (.region f60r20) .skip)
theorem uf60b21 (P ts os Q) : awl P f60b21 Q ts os = awl P (.cond (.t 92) (.region f60r20) .skip) Q ts os := id rfl
def f60r22 : List AI := [⟨none, (.mov 87 (.t 12))⟩, ⟨none, (.bin 88 .eql (.t 87) (.v (.k (.c (.int .i64 (-1))))))⟩, ⟨none, (.mov 89 (.t 88))⟩, ⟨(some (89, true)), (.mov 90 (.t 10))⟩, ⟨(some (89, true)), (.bin 91 .eql (.t 90) (.v (.k (.c (.int .i64 (-1))))))⟩, ⟨none, (.pick 92 (.t 89) (.t 91) (.v (.k (.c (.bool false)))))⟩]
theorem uf60r22 : type_of% @f60r22.eq_1 := id @f60r22.eq_1
def f60b23 : AQ := (.seq (.region f60r22) f60b21)
theorem uf60b23 (P ts os Q) : awl P f60b23 Q ts os = awl P (.seq (.region f60r22) f60b21) Q ts os := id rfl
def f60b24 : AQ := (.seq f60b23 f60b19)
theorem uf60b24 (P ts os Q) : awl P f60b24 Q ts os = awl P (.seq f60b23 f60b19) Q ts os := id rfl
def f60r25 : List AI := [⟨none, (.mov 84 (.t 82))⟩, ⟨none, (.iaddr 85 1 (.t 80) (.t 82))⟩, ⟨none, (.load 86 1 false (.t 85))⟩, ⟨none, (.mov 11 (.t 84))⟩, ⟨none, (.mov 12 (.t 86))⟩]
theorem uf60r25 : type_of% @f60r25.eq_1 := id @f60r25.eq_1
def f60b26 : AQ := (.seq (.region f60r25) f60b24)
theorem uf60b26 (P ts os Q) : awl P f60b26 Q ts os = awl P (.seq (.region f60r25) f60b24) Q ts os := id rfl
def f60b27 : AQ := (.block 4 f60b26)
theorem uf60b27 (P ts os Q) : awl P f60b27 Q ts os = awl P (.block 4 f60b26) Q ts os := id rfl
def f60b28 : AQ := (.seq f60b27 (.region f60r9))
theorem uf60b28 (P ts os Q) : awl P f60b28 Q ts os = awl P (.seq f60b27 (.region f60r9)) Q ts os := id rfl
def f60b29 : AQ := (.cond (.t 83) .skip (.exit 3))
theorem uf60b29 (P ts os Q) : awl P f60b29 Q ts os = awl P (.cond (.t 83) .skip (.exit 3)) Q ts os := id rfl
def f60b30 : AQ := (.seq f60b29 f60b28)
theorem uf60b30 (P ts os Q) : awl P f60b30 Q ts os = awl P (.seq f60b29 f60b28) Q ts os := id rfl
def f60r31 : List AI := [⟨none, (.bin 83 .lss (.t 82) (.t 81))⟩]
theorem uf60r31 : type_of% @f60r31.eq_1 := id @f60r31.eq_1
def f60b32 : AQ := (.seq (.region f60r31) f60b30)
theorem uf60b32 (P ts os Q) : awl P f60b32 Q ts os = awl P (.seq (.region f60r31) f60b30) Q ts os := id rfl
def f60l33 : AQ := .loop [4, 9, 10, 80, 81, 82] [9, 16, 67, 68000, 68001, 68002] f60b32
theorem uf60l33 (P ts os Q) : awl P f60l33 Q ts os = awl P (.loop [4, 9, 10, 80, 81, 82] [9, 16, 67, 68000, 68001, 68002] f60b32) Q ts os := id rfl
def f60b34 : AQ := (.block 3 f60l33)
theorem uf60b34 (P ts os Q) : awl P f60b34 Q ts os = awl P (.block 3 f60l33) Q ts os := id rfl
def f60r35 : List AI := [⟨none, (.faddr 79 0 (.t 9))⟩, ⟨none, (.load 80 1 false (.t 79))⟩, ⟨none, (.len 81 (.t 80))⟩, ⟨none, (.mov 82 (.v (.k (.c (.int .i64 0)))))⟩]
theorem uf60r35 : type_of% @f60r35.eq_1 := id @f60r35.eq_1
def f60b36 : AQ := (.seq (.region f60r35) f60b34)
theorem uf60b36 (P ts os Q) : awl P f60b36 Q ts os = awl P (.seq (.region f60r35) f60b34) Q ts os := id rfl
def f60b37 : AQ := (.seq f60b36 f60b8)
theorem uf60b37 (P ts os Q) : awl P f60b37 Q ts os = awl P (.seq f60b36 f60b8) Q ts os := id rfl
def f60r38 : List AI := [⟨none, (.mov 10 (.v (.k (.c (.int .i64 (-1))))))⟩]
theorem uf60r38 : type_of% @f60r38.eq_1 := id @f60r38.eq_1
def f60b39 : AQ := (.seq (.region f60r38) f60b37)
theorem uf60b39 (P ts os Q) : awl P f60b39 Q ts os = awl P (.seq (.region f60r38) f60b37) Q ts os := id rfl
def f60r40 : List AI := [⟨none, (.mov 2 (.v (.k (.c (.int .i64 0)))))⟩, ⟨none, (.mov 3 (.v (.k (.c (.int .i64 2)))))⟩]
theorem uf60r40 : type_of% @f60r40.eq_1 := id @f60r40.eq_1
def f60b41 : AQ := (.seq (.region f60r40) .ret)
theorem uf60b41 (P ts os Q) : awl P f60b41 Q ts os = awl P (.seq (.region f60r40) .ret) Q ts os := id rfl
def f60b42 : AQ := (.cond (.t 78) f60b41 .skip)
theorem uf60b42 (P ts os Q) : awl P f60b42 Q ts os = awl P (.cond (.t 78) f60b41 .skip) Q ts os := id rfl
def f60r43 : List AI := [⟨none, (.mov 68 (.t 4))⟩, ⟨none, (.len 69 (.t 68))⟩, ⟨none, (.faddr 70 0 (.t 9))⟩, ⟨none, (.load 71 1 false (.t 70))⟩, ⟨none, (.len 72 (.t 71))⟩, ⟨none, (.bin 73 .neq (.t 69) (.t 72))⟩, ⟨none, (.mov 74 (.t 73))⟩, ⟨(some (74, false)), (.faddr 75 1 (.t 1))⟩, ⟨(some (74, false)), (.load 76 1 false (.t 75))⟩, ⟨(some (74, false)), (.bin 77 .neq (.t 76) (.v (.k (.c (.int .i64 0)))))⟩, ⟨none, (.pick 78 (.t 74) (.v (.k (.c (.bool true)))) (.t 77))⟩]
theorem uf60r43 : type_of% @f60r43.eq_1 := id @f60r43.eq_1
def f60b44 : AQ := (.seq (.region f60r43) f60b42)
theorem uf60b44 (P ts os Q) : awl P f60b44 Q ts os = awl P (.seq (.region f60r43) f60b42) Q ts os := id rfl
def f60b45 : AQ := (.seq f60b44 f60b39)
theorem uf60b45 (P ts os Q) : awl P f60b45 Q ts os = awl P (.seq f60b44 f60b39) Q ts os := id rfl
def f60r46 : List AI := [⟨none, (.faddr 65 0 (.t 1))⟩, ⟨none, (.load 66 1 false (.t 65))⟩, ⟨none, (.call (some 67) 72 [(.t 66)])⟩, ⟨none, (.alloc 9 92 [(.list 0 (some true) []), (.int .i64 0)])⟩, ⟨none, (.store 2 (.t 9) (.t 67))⟩]
theorem uf60r46 : type_of% @f60r46.eq_1 := id @f60r46.eq_1
def f60b47 : AQ := (.seq (.region f60r46) f60b45)
theorem uf60b47 (P ts os Q) : awl P f60b47 Q ts os = awl P (.seq (.region f60r46) f60b45) Q ts os := id rfl
def f60r48 : List AI := [⟨none, (.mov 2 (.v (.k (.c (.int .i64 0)))))⟩, ⟨none, (.mov 3 (.v (.k (.c (.int .i64 1)))))⟩]
theorem uf60r48 : type_of% @f60r48.eq_1 := id @f60r48.eq_1
def f60b49 : AQ := (.seq (.region f60r48) .ret)
theorem uf60b49 (P ts os Q) : awl P f60b49 Q ts os = awl P (.seq (.region f60r48) .ret) Q ts os := id rfl
def f60r50 : List AI := [⟨none, (.load 61 3 true (.t 1))⟩, ⟨none, (.call (some 62) 71 [(.t 61)])⟩, ⟨none, (.extr 63 (.t 62) 0)⟩, ⟨none, (.extr 64 (.t 62) 1)⟩, ⟨none, (.mov 2 (.t 63))⟩, ⟨none, (.mov 3 (.t 64))⟩]
theorem uf60r50 : type_of% @f60r50.eq_1 := id @f60r50.eq_1
def f60b51 : AQ := (.seq (.region f60r50) .ret)
theorem uf60b51 (P ts os Q) : awl P f60b51 Q ts os = awl P (.seq (.region f60r50) .ret) Q ts os := id rfl
def f60b52 : AQ := (.cond (.t 47) f60b51 .skip)
theorem uf60b52 (P ts os Q) : awl P f60b52 Q ts os = awl P (.cond (.t 47) f60b51 .skip) Q ts os := id rfl
def f60r53 : List AI := [⟨none, (.faddr 48 0 (.t 1))⟩, ⟨none, (.load 49 1 false (.t 48))⟩, ⟨none, (.bin 50 .eql (.t 49) (.v (.k (.c (.int .i64 0)))))⟩, ⟨none, (.mov 51 (.t 50))⟩, ⟨(some (51, false)), (.faddr 52 0 (.t 1))⟩, ⟨(some (51, false)), (.load 53 1 false (.t 52))⟩, ⟨(some (51, false)), (.bin 54 .eql (.t 53) (.v (.k (.c (.int .i64 1)))))⟩, ⟨none, (.pick 55 (.t 51) (.v (.k (.c (.bool true)))) (.t 54))⟩, ⟨none, (.mov 56 (.t 55))⟩, ⟨(some (56, false)), (.faddr 57 0 (.t 1))⟩, ⟨(some (56, false)), (.load 58 1 false (.t 57))⟩, ⟨(some (56, false)), (.bin 59 .eql (.t 58) (.v (.k (.c (.int .i64 2)))))⟩, ⟨none, (.pick 60 (.t 56) (.v (.k (.c (.bool true)))) (.t 59))⟩, ⟨none, (.mov 47 (.t 60))⟩]
theorem uf60r53 : type_of% @f60r53.eq_1 := id @f60r53.eq_1
def f60b54 : AQ := (.seq (.region f60r53) f60b52)
theorem uf60b54 (P ts os Q) : awl P f60b54 Q ts os = awl P (.seq (.region f60r53) f60b52) Q ts os := id rfl
def f60b55 : AQ := (.cond (.t 38) f60b49 f60b54)
theorem uf60b55 (P ts os Q) : awl P f60b55 Q ts os = awl P (.cond (.t 38) f60b49 f60b54) Q ts os := id rfl
def f60r56 : List AI := [⟨none, (.faddr 39 0 (.t 1))⟩, ⟨none, (.load 40 1 false (.t 39))⟩, ⟨none, (.bin 41 .lss (.t 40) (.v (.k (.c (.int .i64 0)))))⟩, ⟨none, (.mov 42 (.t 41))⟩, ⟨(some (42, false)), (.faddr 43 0 (.t 1))⟩, ⟨(some (42, false)), (.load 44 1 false (.t 43))⟩, ⟨(some (42, false)), (.bin 45 .gtr (.t 44) (.v (.k (.c (.int .i64 13)))))⟩, ⟨none, (.pick 46 (.t 42) (.v (.k (.c (.bool true)))) (.t 45))⟩, ⟨none, (.mov 38 (.t 46))⟩]
theorem uf60r56 : type_of% @f60r56.eq_1 := id @f60r56.eq_1
def f60b57 : AQ := (.seq (.region f60r56) f60b55)
theorem uf60b57 (P ts os Q) : awl P f60b57 Q ts os = awl P (.seq (.region f60r56) f60b55) Q ts os := id rfl
def f60b58 : AQ := (.block 2 f60b57)
theorem uf60b58 (P ts os Q) : awl P f60b58 Q ts os = awl P (.block 2 f60b57) Q ts os := id rfl
def f60b59 : AQ := (.seq f60b58 f60b47)
theorem uf60b59 (P ts os Q) : awl P f60b59 Q ts os = awl P (.seq f60b58 f60b47) Q ts os := id rfl
def f60r60 : List AI := [⟨none, (.bin 37 .add (.t 20) (.v (.k (.c (.int .i64 1)))))⟩, ⟨none, (.mov 20 (.t 37))⟩]
theorem uf60r60 : type_of% @f60r60.eq_1 := id @f60r60.eq_1
def f60r61 : List AI := [⟨none, (.mov 33 (.t 4))⟩, ⟨none, (.mov 34 (.t 5))⟩, ⟨none, (.mov 35 (.t 7))⟩, ⟨none, (.iaddr 36 1 (.t 33) (.t 34))⟩, ⟨none, (.store 1 (.t 36) (.t 35))⟩]
theorem uf60r61 : type_of% @f60r61.eq_1 := id @f60r61.eq_1
def f60r62 : List AI := [⟨none, (.mov 32 (.t 8))⟩, ⟨none, (.mov 2 (.v (.k (.c (.int .i64 0)))))⟩, ⟨none, (.mov 3 (.t 32))⟩]
theorem uf60r62 : type_of% @f60r62.eq_1 := id @f60r62.eq_1
def f60b63 : AQ := (.seq (.region f60r62) .ret)
theorem uf60b63 (P ts os Q) : awl P f60b63 Q ts os = awl P (.seq (.region f60r62) .ret) Q ts os := id rfl
def f60b64 : AQ := (.cond (.t 31) f60b63 .skip)
theorem uf60b64 (P ts os Q) : awl P f60b64 Q ts os = awl P (.cond (.t 31) f60b63 .skip) Q ts os := id rfl
def f60r65 : List AI := [⟨none, (.mov 30 (.t 8))⟩, ⟨none, (.bin 31 .neq (.t 30) (.v (.k (.c (.int .i64 0)))))⟩]
theorem uf60r65 : type_of% @f60r65.eq_1 := id @f60r65.eq_1
def f60b66 : AQ := (.seq (.region f60r65) f60b64)
theorem uf60b66 (P ts os Q) : awl P f60b66 Q ts os = awl P (.seq (.region f60r65) f60b64) Q ts os := id rfl
def f60b67 : AQ := (.seq f60b66 (.region f60r61))
theorem uf60b67 (P ts os Q) : awl P f60b67 Q ts os = awl P (.seq f60b66 (.region f60r61)) Q ts os := id rfl
def f60r68 : List AI := [⟨none, (.load 26 3 true (.t 6))⟩, ⟨none, (.call (some 27) 60 [(.t 26)])⟩, ⟨none, (.mov 25 (.t 27))⟩, ⟨none, (.extr 28 (.t 25) 0)⟩, ⟨none, (.extr 29 (.t 25) 1)⟩, ⟨none, (.mov 7 (.t 28))⟩, ⟨none, (.mov 8 (.t 29))⟩]
theorem uf60r68 : type_of% @f60r68.eq_1 := id @f60r68.eq_1
def f60b69 : AQ := (.seq (.region f60r68) f60b67)
theorem uf60b69 (P ts os Q) : awl P f60b69 Q ts os = awl P (.seq (.region f60r68) f60b67) Q ts os := id rfl
def f60r70 : List AI := [⟨none, (.mov 22 (.t 20))⟩, ⟨none, (.iaddr 23 3 (.t 18) (.t 20))⟩, ⟨none, (.load 24 3 true (.t 23))⟩, ⟨none, (.alloc 6 41 [(.int .i64 0), (.int .i64 0), (.list 0 (some true) [])])⟩, ⟨none, (.mov 5 (.t 22))⟩, ⟨none, (.store 3 (.t 6) (.t 24))⟩]
theorem uf60r70 : type_of% @f60r70.eq_1 := id @f60r70.eq_1
def f60b71 : AQ := (.seq (.region f60r70) f60b69)
theorem uf60b71 (P ts os Q) : awl P f60b71 Q ts os = awl P (.seq (.region f60r70) f60b69) Q ts os := id rfl
def f60b72 : AQ := (.block 1 f60b71)
theorem uf60b72 (P ts os Q) : awl P f60b72 Q ts os = awl P (.block 1 f60b71) Q ts os := id rfl
def f60b73 : AQ := (.seq f60b72 (.region f60r60))
theorem uf60b73 (P ts os Q) : awl P f60b73 Q ts os = awl P (.seq f60b72 (.region f60r60)) Q ts os := id rfl
def f60b74 : AQ := (.cond (.t 21) .skip (.exit 0))
theorem uf60b74 (P ts os Q) : awl P f60b74 Q ts os = awl P (.cond (.t 21) .skip (.exit 0)) Q ts os := id rfl
def f60b75 : AQ := (.seq f60b74 f60b73)
theorem uf60b75 (P ts os Q) : awl P f60b75 Q ts os = awl P (.seq f60b74 f60b73) Q ts os := id rfl
def f60r76 : List AI := [⟨none, (.bin 21 .lss (.t 20) (.t 19))⟩]
theorem uf60r76 : type_of% @f60r76.eq_1 := id @f60r76.eq_1
def f60b77 : AQ := (.seq (.region f60r76) f60b75)
theorem uf60b77 (P ts os Q) : awl P f60b77 Q ts os = awl P (.seq (.region f60r76) f60b75) Q ts os := id rfl
def f60l78 : AQ := .loop [1, 4, 18, 19, 20] [1, 16] f60b77
theorem uf60l78 (P ts os Q) : awl P f60l78 Q ts os = awl P (.loop [1, 4, 18, 19, 20] [1, 16] f60b77) Q ts os := id rfl
def f60b79 : AQ := (.block 0 f60l78)
theorem uf60b79 (P ts os Q) : awl P f60b79 Q ts os = awl P (.block 0 f60l78) Q ts os := id rfl
def f60r80 : List AI := [⟨none, (.faddr 17 2 (.t 1))⟩, ⟨none, (.load 18 1 false (.t 17))⟩, ⟨none, (.len 19 (.t 18))⟩, ⟨none, (.mov 20 (.v (.k (.c (.int .i64 0)))))⟩]
theorem uf60r80 : type_of% @f60r80.eq_1 := id @f60r80.eq_1
def f60b81 : AQ := (.seq (.region f60r80) f60b79)
theorem uf60b81 (P ts os Q) : awl P f60b81 Q ts os = awl P (.seq (.region f60r80) f60b79) Q ts os := id rfl
def f60b82 : AQ := (.seq f60b81 f60b59)
theorem uf60b82 (P ts os Q) : awl P f60b82 Q ts os = awl P (.seq f60b81 f60b59) Q ts os := id rfl
def f60r83 : List AI := [⟨none, (.faddr 13 2 (.t 1))⟩, ⟨none, (.load 14 1 false (.t 13))⟩, ⟨none, (.len 15 (.t 14))⟩, ⟨none, (.mkslice 16 3 1 8 [(.int .i64 0)] (.t 15) (.t 15))⟩, ⟨none, (.mov 4 (.t 16))⟩]
theorem uf60r83 : type_of% @f60r83.eq_1 := id @f60r83.eq_1
def f60b84 : AQ := (.seq (.region f60r83) f60b82)
theorem uf60b84 (P ts os Q) : awl P f60b84 Q ts os = awl P (.seq (.region f60r83) f60b82) Q ts os := id rfl
def f60r85 : List AI := [⟨none, (.box 1 41 (.t 0))⟩, ⟨none, (.mov 2 (.v (.k (.c (.int .i64 0)))))⟩, ⟨none, (.mov 3 (.v (.k (.c (.int .i64 0)))))⟩]
theorem uf60r85 : type_of% @f60r85.eq_1 := id @f60r85.eq_1
def f60b86 : AQ := (.seq (.region f60r85) f60b84)
theorem uf60b86 (P ts os Q) : awl P f60b86 Q ts os = awl P (.seq (.region f60r85) f60b84) Q ts os := id rfl
def f60 : AQ := f60b86
theorem uf60 (P ts os Q) : awl P f60 Q ts os = awl P f60b86 Q ts os := id rfl
theorem hf60 : cFunc Try.prog 60 = some ⟨113, f60.erase, [(RX.t 2), (RX.t 3)]⟩ := by kernel_rfl
theorem okf60 : f60.ok = true := by kernel_rfl
/-! ### function 61 -/
def f61r1 : List AI := [⟨none, (.mov 74 (.t 9))⟩, ⟨none, (.mov 2 (.t 74))⟩, ⟨none, (.mov 3 (.v (.k (.c (.int .i64 0)))))⟩]
theorem uf61r1 : type_of% @f61r1.eq_1 := id @f61r1.eq_1
def f61b2 : AQ := (.seq (.region f61r1) .ret)
theorem uf61b2 (P ts os Q) : awl P f61b2 Q ts os = awl P (.seq (.region f61r1) .ret) Q ts os := id rfl
def f61r3 : List AI := [⟨none, (.mov 2 (.v (.k (.c (.int .i64 0)))))⟩, ⟨none, (.mov 3 (.v (.k (.c (.int .i64 11)))))⟩]
theorem uf61r3 : type_of% @f61r3.eq_1 := id @f61r3.eq_1
def f61b4 : AQ := (.seq (.region f61r3) .ret)
theorem uf61b4 (P ts os Q) : awl P f61b4 Q ts os = awl P (.seq (.region f61r3) .ret) Q ts os := id rfl
def f61b5 : AQ := (.cond (.t 73) f61b4 .skip)
theorem uf61b5 (P ts os Q) : awl P f61b5 Q ts os = awl P (.cond (.t 73) f61b4 .skip) Q ts os := id rfl
def f61r6 : List AI := [⟨none, (.mov 72 (.t 10))⟩, ⟨none, (.un 73 .not (.t 72))⟩]
theorem uf61r6 : type_of% @f61r6.eq_1 := id @f61r6.eq_1
def f61b7 : AQ := (.seq (.region f61r6) f61b5)
theorem uf61b7 (P ts os Q) : awl P f61b7 Q ts os = awl P (.seq (.region f61r6) f61b5) Q ts os := id rfl
def f61b8 : AQ := (.seq f61b7 f61b2)
theorem uf61b8 (P ts os Q) : awl P f61b8 Q ts os = awl P (.seq f61b7 f61b2) Q ts os := id rfl
def f61r9 : List AI := [⟨none, (.faddr 66 0 (.t 1))⟩, ⟨none, (.load 67 1 false (.t 66))⟩, ⟨none, (.mov 68 (.t 4))⟩, ⟨none, (.call (some 69) 75 [(.t 67), (.t 68)])⟩, ⟨none, (.mov 65 (.t 69))⟩, ⟨none, (.extr 70 (.t 65) 0)⟩, ⟨none, (.extr 71 (.t 65) 1)⟩, ⟨none, (.mov 9 (.t 70))⟩, ⟨none, (.mov 10 (.t 71))⟩]
theorem uf61r9 : type_of% @f61r9.eq_1 := id @f61r9.eq_1
def f61b10 : AQ := (.seq (.region f61r9) f61b8)
theorem uf61b10 (P ts os Q) : awl P f61b10 Q ts os = awl P (.seq (.region f61r9) f61b8) Q ts os := id rfl
def f61r11 : List AI := [⟨none, (.load 61 3 true (.t 1))⟩, ⟨none, (.call (some 62) 74 [(.t 61)])⟩, ⟨none, (.extr 63 (.t 62) 0)⟩, ⟨none, (.extr 64 (.t 62) 1)⟩, ⟨none, (.mov 2 (.t 63))⟩, ⟨none, (.mov 3 (.t 64))⟩]
theorem uf61r11 : type_of% @f61r11.eq_1 := id @f61r11.eq_1
def f61b12 : AQ := (.seq (.region f61r11) .ret)
theorem uf61b12 (P ts os Q) : awl P f61b12 Q ts os = awl P (.seq (.region f61r11) .ret) Q ts os := id rfl
def f61b13 : AQ := (.cond (.t 60) f61b12 .skip)
theorem uf61b13 (P ts os Q) : awl P f61b13 Q ts os = awl P (.cond (.t 60) f61b12 .skip) Q ts os := id rfl
def f61r14 : List AI := [⟨none, (.mov 59 (.t 8))⟩, ⟨none, (.bin 60 .eql (.t 59) (.v (.k (.c (.int .i64 0)))))⟩]
theorem uf61r14 : type_of% @f61r14.eq_1 := id @f61r14.eq_1
def f61b15 : AQ := (.seq (.region f61r14) f61b13)
theorem uf61b15 (P ts os Q) : awl P f61b15 Q ts os = awl P (.seq (.region f61r14) f61b13) Q ts os := id rfl
def f61b16 : AQ := (.seq f61b15 f61b10)
theorem uf61b16 (P ts os Q) : awl P f61b16 Q ts os = awl P (.seq f61b15 f61b10) Q ts os := id rfl
def f61r17 : List AI := [⟨none, (.mov 2 (.v (.k (.c (.int .i64 0)))))⟩, ⟨none, (.mov 3 (.v (.k (.c (.int .i64 2)))))⟩]
theorem uf61r17 : type_of% @f61r17.eq_1 := id @f61r17.eq_1
def f61b18 : AQ := (.seq (.region f61r17) .ret)
theorem uf61b18 (P ts os Q) : awl P f61b18 Q ts os = awl P (.seq (.region f61r17) .ret) Q ts os := id rfl
def f61b19 : AQ := (.cond (.t 58) f61b18 .skip)
theorem uf61b19 (P ts os Q) : awl P f61b19 Q ts os = awl P (.cond (.t 58) f61b18 .skip) Q ts os := id rfl
def f61r20 : List AI := [⟨none, (.mov 46 (.t 4))⟩, ⟨none, (.len 47 (.t 46))⟩, ⟨none, (.mov 48 (.t 8))⟩, ⟨none, (.bin 49 .neq (.t 47) (.t 48))⟩, ⟨none, (.mov 50 (.t 49))⟩, ⟨(some (50, false)), (.mov 51 (.t 8))⟩, ⟨(some (50, false)), (.bin 52 .gtr (.t 51) (.v (.k (.c (.int .i64 0)))))⟩, ⟨(some (50, false)), (.mov 53 (.t 52))⟩, ⟨(some (53, true)), (.faddr 54 1 (.t 1))⟩, ⟨(some (53, true)), (.load 55 1 false (.t 54))⟩, ⟨(some (53, true)), (.bin 56 .neq (.t 55) (.v (.k (.c (.int .i64 0)))))⟩, ⟨(some (50, false)), (.pick 57 (.t 53) (.t 56) (.v (.k (.c (.bool false)))))⟩, ⟨none, (.pick 58 (.t 50) (.v (.k (.c (.bool true)))) (.t 57))⟩]
theorem uf61r20 : type_of% @f61r20.eq_1 := id @f61r20.eq_1
def f61b21 : AQ := (.seq (.region f61r20) f61b19)
theorem uf61b21 (P ts os Q) : awl P f61b21 Q ts os = awl P (.seq (.region f61r20) f61b19) Q ts os := id rfl
def f61b22 : AQ := (.seq f61b21 f61b16)
theorem uf61b22 (P ts os Q) : awl P f61b22 Q ts os = awl P (.seq f61b21 f61b16) Q ts os := id rfl
def f61r23 : List AI := [⟨none, (.faddr 43 0 (.t 1))⟩, ⟨none, (.load 44 1 false (.t 43))⟩, ⟨none, (.call (some 45) 73 [(.t 44)])⟩, ⟨none, (.mov 8 (.t 45))⟩]
theorem uf61r23 : type_of% @f61r23.eq_1 := id @f61r23.eq_1
def f61b24 : AQ := (.seq (.region f61r23) f61b22)
theorem uf61b24 (P ts os Q) : awl P f61b24 Q ts os = awl P (.seq (.region f61r23) f61b22) Q ts os := id rfl
def f61r25 : List AI := [⟨none, (.mov 2 (.v (.k (.c (.int .i64 0)))))⟩, ⟨none, (.mov 3 (.v (.k (.c (.int .i64 1)))))⟩]
theorem uf61r25 : type_of% @f61r25.eq_1 := id @f61r25.eq_1
def f61b26 : AQ := (.seq (.region f61r25) .ret)
theorem uf61b26 (P ts os Q) : awl P f61b26 Q ts os = awl P (.seq (.region f61r25) .ret) Q ts os := id rfl
def f61b27 : AQ := (.cond (.t 42) f61b26 .skip)
theorem uf61b27 (P ts os Q) : awl P f61b27 Q ts os = awl P (.cond (.t 42) f61b26 .skip) Q ts os := id rfl
def f61r28 : List AI := [⟨none, (.faddr 35 0 (.t 1))⟩, ⟨none, (.load 36 1 false (.t 35))⟩, ⟨none, (.bin 37 .lss (.t 36) (.v (.k (.c (.int .i64 0)))))⟩, ⟨none, (.mov 38 (.t 37))⟩, ⟨(some (38, false)), (.faddr 39 0 (.t 1))⟩, ⟨(some (38, false)), (.load 40 1 false (.t 39))⟩, ⟨(some (38, false)), (.bin 41 .geq (.t 40) (.v (.k (.c (.int .i64 14)))))⟩, ⟨none, (.pick 42 (.t 38) (.v (.k (.c (.bool true)))) (.t 41))⟩]
theorem uf61r28 : type_of% @f61r28.eq_1 := id @f61r28.eq_1
def f61b29 : AQ := (.seq (.region f61r28) f61b27)
theorem uf61b29 (P ts os Q) : awl P f61b29 Q ts os = awl P (.seq (.region f61r28) f61b27) Q ts os := id rfl
def f61b30 : AQ := (.seq f61b29 f61b24)
theorem uf61b30 (P ts os Q) : awl P f61b30 Q ts os = awl P (.seq f61b29 f61b24) Q ts os := id rfl
def f61r31 : List AI := [⟨none, (.mov 17 (.t 5))⟩, ⟨none, (.bin 18 .add (.t 17) (.v (.k (.c (.int .i64 1)))))⟩, ⟨none, (.mov 5 (.t 18))⟩]
theorem uf61r31 : type_of% @f61r31.eq_1 := id @f61r31.eq_1
def f61r32 : List AI := [⟨none, (.mov 31 (.t 4))⟩, ⟨none, (.mov 32 (.t 6))⟩, ⟨none, (.bslice 33 3 1 [(.int .i64 0)] 1 [(0, (.t 32))])⟩, ⟨none, (.append 34 3 1 8 (.t 31) (.t 33))⟩, ⟨none, (.mov 4 (.t 34))⟩]
theorem uf61r32 : type_of% @f61r32.eq_1 := id @f61r32.eq_1
def f61r33 : List AI := [⟨none, (.mov 30 (.t 7))⟩, ⟨none, (.mov 2 (.v (.k (.c (.int .i64 0)))))⟩, ⟨none, (.mov 3 (.t 30))⟩]
theorem uf61r33 : type_of% @f61r33.eq_1 := id @f61r33.eq_1
def f61b34 : AQ := (.seq (.region f61r33) .ret)
theorem uf61b34 (P ts os Q) : awl P f61b34 Q ts os = awl P (.seq (.region f61r33) .ret) Q ts os := id rfl
def f61b35 : AQ := (.cond (.t 29) f61b34 .skip)
theorem uf61b35 (P ts os Q) : awl P f61b35 Q ts os = awl P (.cond (.t 29) f61b34 .skip) Q ts os := id rfl
def f61r36 : List AI := [⟨none, (.mov 28 (.t 7))⟩, ⟨none, (.bin 29 .neq (.t 28) (.v (.k (.c (.int .i64 0)))))⟩]
theorem uf61r36 : type_of% @f61r36.eq_1 := id @f61r36.eq_1
def f61b37 : AQ := (.seq (.region f61r36) f61b35)
theorem uf61b37 (P ts os Q) : awl P f61b37 Q ts os = awl P (.seq (.region f61r36) f61b35) Q ts os := id rfl
def f61b38 : AQ := (.seq f61b37 (.region f61r32))
theorem uf61b38 (P ts os Q) : awl P f61b38 Q ts os = awl P (.seq f61b37 (.region f61r32)) Q ts os := id rfl
def f61r39 : List AI := [⟨none, (.faddr 20 2 (.t 1))⟩, ⟨none, (.load 21 1 false (.t 20))⟩, ⟨none, (.mov 22 (.t 5))⟩, ⟨none, (.iaddr 23 3 (.t 21) (.t 22))⟩, ⟨none, (.load 24 3 true (.t 23))⟩, ⟨none, (.call (some 25) 61 [(.t 24)])⟩, ⟨none, (.mov 19 (.t 25))⟩, ⟨none, (.extr 26 (.t 19) 0)⟩, ⟨none, (.extr 27 (.t 19) 1)⟩, ⟨none, (.mov 6 (.t 26))⟩, ⟨none, (.mov 7 (.t 27))⟩]
theorem uf61r39 : type_of% @f61r39.eq_1 := id @f61r39.eq_1
def f61b40 : AQ := (.seq (.region f61r39) f61b38)
theorem uf61b40 (P ts os Q) : awl P f61b40 Q ts os = awl P (.seq (.region f61r39) f61b38) Q ts os := id rfl
def f61b41 : AQ := (.block 1 f61b40)
theorem uf61b41 (P ts os Q) : awl P f61b41 Q ts os = awl P (.block 1 f61b40) Q ts os := id rfl
def f61b42 : AQ := (.seq f61b41 (.region f61r31))
theorem uf61b42 (P ts os Q) : awl P f61b42 Q ts os = awl P (.seq f61b41 (.region f61r31)) Q ts os := id rfl
def f61b43 : AQ := (.cond (.t 16) .skip (.exit 0))
theorem uf61b43 (P ts os Q) : awl P f61b43 Q ts os = awl P (.cond (.t 16) .skip (.exit 0)) Q ts os := id rfl
def f61r44 : List AI := [⟨none, (.mov 12 (.t 5))⟩, ⟨none, (.faddr 13 2 (.t 1))⟩, ⟨none, (.load 14 1 false (.t 13))⟩, ⟨none, (.len 15 (.t 14))⟩, ⟨none, (.bin 16 .lss (.t 12) (.t 15))⟩]
theorem uf61r44 : type_of% @f61r44.eq_1 := id @f61r44.eq_1
def f61b45 : AQ := (.seq (.region f61r44) f61b43)
theorem uf61b45 (P ts os Q) : awl P f61b45 Q ts os = awl P (.seq (.region f61r44) f61b43) Q ts os := id rfl
def f61b46 : AQ := (.seq f61b45 f61b42)
theorem uf61b46 (P ts os Q) : awl P f61b46 Q ts os = awl P (.seq f61b45 f61b42) Q ts os := id rfl
def f61l47 : AQ := .loop [1, 4, 5] [1, 11, 34] f61b46
theorem uf61l47 (P ts os Q) : awl P f61l47 Q ts os = awl P (.loop [1, 4, 5] [1, 11, 34] f61b46) Q ts os := id rfl
def f61b48 : AQ := (.block 0 f61l47)
theorem uf61b48 (P ts os Q) : awl P f61b48 Q ts os = awl P (.block 0 f61l47) Q ts os := id rfl
def f61r49 : List AI := [⟨none, (.mov 5 (.v (.k (.c (.int .i64 0)))))⟩]
theorem uf61r49 : type_of% @f61r49.eq_1 := id @f61r49.eq_1
def f61b50 : AQ := (.seq (.region f61r49) f61b48)
theorem uf61b50 (P ts os Q) : awl P f61b50 Q ts os = awl P (.seq (.region f61r49) f61b48) Q ts os := id rfl
def f61b51 : AQ := (.seq f61b50 f61b30)
theorem uf61b51 (P ts os Q) : awl P f61b51 Q ts os = awl P (.seq f61b50 f61b30) Q ts os := id rfl
def f61r52 : List AI := [⟨none, (.bslice 11 3 1 [(.int .i64 0)] 0 [])⟩, ⟨none, (.mov 4 (.t 11))⟩]
theorem uf61r52 : type_of% @f61r52.eq_1 := id @f61r52.eq_1
def f61b53 : AQ := (.seq (.region f61r52) f61b51)
theorem uf61b53 (P ts os Q) : awl P f61b53 Q ts os = awl P (.seq (.region f61r52) f61b51) Q ts os := id rfl
def f61r54 : List AI := [⟨none, (.box 1 41 (.t 0))⟩, ⟨none, (.mov 2 (.v (.k (.c (.int .i64 0)))))⟩, ⟨none, (.mov 3 (.v (.k (.c (.int .i64 0)))))⟩]
theorem uf61r54 : type_of% @f61r54.eq_1 := id @f61r54.eq_1
def f61b55 : AQ := (.seq (.region f61r54) f61b53)
theorem uf61b55 (P ts os Q) : awl P f61b55 Q ts os = awl P (.seq (.region f61r54) f61b53) Q ts os := id rfl
def f61 : AQ := f61b55
theorem uf61 (P ts os Q) : awl P f61 Q ts os = awl P f61b55 Q ts os := id rfl
theorem hf61 : cFunc Try.prog 61 = some ⟨75, f61.erase, [(RX.t 2), (RX.t 3)]⟩ := by kernel_rfl
theorem okf61 : f61.ok = true := by kernel_rfl
/-! ### function 62 -/
def f62r1 : List AI := [⟨none, (.bin 24 .add (.t 17) (.v (.k (.c (.int .i64 1)))))⟩, ⟨none, (.mov 17 (.t 24))⟩]
theorem uf62r1 : type_of% @f62r1.eq_1 := id @f62r1.eq_1
def f62r2 : List AI := [⟨none, (.load 21 1 false (.t 2))⟩, ⟨none, (.load 22 3 true (.t 5))⟩, ⟨none, (.callv (some 23) (.t 21) [(.t 22)])⟩]
theorem uf62r2 : type_of% @f62r2.eq_1 := id @f62r2.eq_1
def f62r3 : List AI := [⟨none, (.iaddr 19 3 (.t 15) (.t 17))⟩, ⟨none, (.load 20 3 true (.t 19))⟩, ⟨none, (.alloc 5 41 [(.int .i64 0), (.int .i64 0), (.list 0 (some true) [])])⟩, ⟨none, (.store 3 (.t 5) (.t 20))⟩]
theorem uf62r3 : type_of% @f62r3.eq_1 := id @f62r3.eq_1
def f62b4 : AQ := (.seq (.region f62r3) (.region f62r2))
theorem uf62b4 (P ts os Q) : awl P f62b4 Q ts os = awl P (.seq (.region f62r3) (.region f62r2)) Q ts os := id rfl
def f62b5 : AQ := (.block 1 f62b4)
theorem uf62b5 (P ts os Q) : awl P f62b5 Q ts os = awl P (.block 1 f62b4) Q ts os := id rfl
def f62b6 : AQ := (.seq f62b5 (.region f62r1))
theorem uf62b6 (P ts os Q) : awl P f62b6 Q ts os = awl P (.seq f62b5 (.region f62r1)) Q ts os := id rfl
def f62b7 : AQ := (.cond (.t 18) .skip (.exit 0))
theorem uf62b7 (P ts os Q) : awl P f62b7 Q ts os = awl P (.cond (.t 18) .skip (.exit 0)) Q ts os := id rfl
def f62b8 : AQ := (.seq f62b7 f62b6)
theorem uf62b8 (P ts os Q) : awl P f62b8 Q ts os = awl P (.seq f62b7 f62b6) Q ts os := id rfl
def f62r9 : List AI := [⟨none, (.bin 18 .lss (.t 17) (.t 16))⟩]
theorem uf62r9 : type_of% @f62r9.eq_1 := id @f62r9.eq_1
def f62b10 : AQ := (.seq (.region f62r9) f62b8)
theorem uf62b10 (P ts os Q) : awl P f62b10 Q ts os = awl P (.seq (.region f62r9) f62b8) Q ts os := id rfl
def f62l11 : AQ := .loop [1, 2, 15, 16, 17] [1000, 1005, 1006] f62b10
theorem uf62l11 (P ts os Q) : awl P f62l11 Q ts os = awl P (.loop [1, 2, 15, 16, 17] [1000, 1005, 1006] f62b10) Q ts os := id rfl
def f62b12 : AQ := (.block 0 f62l11)
theorem uf62b12 (P ts os Q) : awl P f62b12 Q ts os = awl P (.block 0 f62l11) Q ts os := id rfl
def f62r13 : List AI := [⟨none, (.faddr 14 2 (.t 3))⟩, ⟨none, (.load 15 1 false (.t 14))⟩, ⟨none, (.len 16 (.t 15))⟩, ⟨none, (.mov 17 (.v (.k (.c (.int .i64 0)))))⟩]
theorem uf62r13 : type_of% @f62r13.eq_1 := id @f62r13.eq_1
def f62b14 : AQ := (.seq (.region f62r13) f62b12)
theorem uf62b14 (P ts os Q) : awl P f62b14 Q ts os = awl P (.seq (.region f62r13) f62b12) Q ts os := id rfl
def f62r15 : List AI := [⟨none, (.load 9 1 false (.t 1))⟩, ⟨none, (.faddr 10 1 (.t 3))⟩, ⟨none, (.load 11 1 false (.t 10))⟩, ⟨none, (.bslice 12 3 1 [(.int .i64 0)] 1 [(0, (.t 11))])⟩, ⟨none, (.append 13 3 1 8 (.t 9) (.t 12))⟩, ⟨none, (.store 1 (.t 1) (.t 13))⟩]
theorem uf62r15 : type_of% @f62r15.eq_1 := id @f62r15.eq_1
def f62b16 : AQ := (.cond (.t 8) (.region f62r15) .skip)
theorem uf62b16 (P ts os Q) : awl P f62b16 Q ts os = awl P (.cond (.t 8) (.region f62r15) .skip) Q ts os := id rfl
def f62r17 : List AI := [⟨none, (.faddr 6 0 (.t 3))⟩, ⟨none, (.load 7 1 false (.t 6))⟩, ⟨none, (.bin 8 .eql (.t 7) (.v (.k (.c (.int .i64 2)))))⟩]
theorem uf62r17 : type_of% @f62r17.eq_1 := id @f62r17.eq_1
def f62b18 : AQ := (.seq (.region f62r17) f62b16)
theorem uf62b18 (P ts os Q) : awl P f62b18 Q ts os = awl P (.seq (.region f62r17) f62b16) Q ts os := id rfl
def f62b19 : AQ := (.seq f62b18 f62b14)
theorem uf62b19 (P ts os Q) : awl P f62b19 Q ts os = awl P (.seq f62b18 f62b14) Q ts os := id rfl
def f62r20 : List AI := [⟨none, (.box 3 41 (.t 0))⟩]
theorem uf62r20 : type_of% @f62r20.eq_1 := id @f62r20.eq_1
def f62b21 : AQ := (.seq (.region f62r20) f62b19)
theorem uf62b21 (P ts os Q) : awl P f62b21 Q ts os = awl P (.seq (.region f62r20) f62b19) Q ts os := id rfl
def f62 : AQ := f62b21
theorem uf62 (P ts os Q) : awl P f62 Q ts os = awl P f62b21 Q ts os := id rfl
theorem hf62 : cFunc Try.prog 62 = some ⟨25, f62.erase, []⟩ := by kernel_rfl
theorem okf62 : f62.ok = true := by kernel_rfl
/-! ### function 63 -/
def f63r1 : List AI := [⟨none, (.mov 4 (.v (.k (.c (.bool false)))))⟩]
theorem uf63r1 : type_of% @f63r1.eq_1 := id @f63r1.eq_1
def f63b2 : AQ := (.seq (.region f63r1) .ret)
theorem uf63b2 (P ts os Q) : awl P f63b2 Q ts os = awl P (.seq (.region f63r1) .ret) Q ts os := id rfl
def f63r3 : List AI := [⟨none, (.mov 19 (.t 5))⟩, ⟨none, (.bin 20 .add (.t 19) (.v (.k (.c (.int .i64 1)))))⟩, ⟨none, (.mov 5 (.t 20))⟩]
theorem uf63r3 : type_of% @f63r3.eq_1 := id @f63r3.eq_1
def f63r4 : List AI := [⟨none, (.mov 4 (.v (.k (.c (.bool true)))))⟩]
theorem uf63r4 : type_of% @f63r4.eq_1 := id @f63r4.eq_1
def f63b5 : AQ := (.seq (.region f63r4) .ret)
theorem uf63b5 (P ts os Q) : awl P f63b5 Q ts os = awl P (.seq (.region f63r4) .ret) Q ts os := id rfl
def f63b6 : AQ := (.cond (.t 28) f63b5 .skip)
theorem uf63b6 (P ts os Q) : awl P f63b6 Q ts os = awl P (.cond (.t 28) f63b5 .skip) Q ts os := id rfl
def f63r7 : List AI := [⟨none, (.mov 28 (.t 6))⟩]
theorem uf63r7 : type_of% @f63r7.eq_1 := id @f63r7.eq_1
def f63b8 : AQ := (.seq (.region f63r7) f63b6)
theorem uf63b8 (P ts os Q) : awl P f63b8 Q ts os = awl P (.seq (.region f63r7) f63b6) Q ts os := id rfl
def f63r9 : List AI := [⟨none, (.faddr 21 2 (.t 2))⟩, ⟨none, (.load 22 1 false (.t 21))⟩, ⟨none, (.mov 23 (.t 5))⟩, ⟨none, (.iaddr 24 3 (.t 22) (.t 23))⟩, ⟨none, (.load 25 3 true (.t 24))⟩, ⟨none, (.mov 26 (.t 1))⟩, ⟨none, (.call (some 27) 63 [(.t 25), (.t 26)])⟩, ⟨none, (.mov 6 (.t 27))⟩]
theorem uf63r9 : type_of% @f63r9.eq_1 := id @f63r9.eq_1
def f63b10 : AQ := (.seq (.region f63r9) f63b8)
theorem uf63b10 (P ts os Q) : awl P f63b10 Q ts os = awl P (.seq (.region f63r9) f63b8) Q ts os := id rfl
def f63b11 : AQ := (.block 1 f63b10)
theorem uf63b11 (P ts os Q) : awl P f63b11 Q ts os = awl P (.block 1 f63b10) Q ts os := id rfl
def f63b12 : AQ := (.seq f63b11 (.region f63r3))
theorem uf63b12 (P ts os Q) : awl P f63b12 Q ts os = awl P (.seq f63b11 (.region f63r3)) Q ts os := id rfl
def f63b13 : AQ := (.cond (.t 18) .skip (.exit 0))
theorem uf63b13 (P ts os Q) : awl P f63b13 Q ts os = awl P (.cond (.t 18) .skip (.exit 0)) Q ts os := id rfl
def f63r14 : List AI := [⟨none, (.mov 14 (.t 5))⟩, ⟨none, (.faddr 15 2 (.t 2))⟩, ⟨none, (.load 16 1 false (.t 15))⟩, ⟨none, (.len 17 (.t 16))⟩, ⟨none, (.bin 18 .lss (.t 14) (.t 17))⟩]
theorem uf63r14 : type_of% @f63r14.eq_1 := id @f63r14.eq_1
def f63b15 : AQ := (.seq (.region f63r14) f63b13)
theorem uf63b15 (P ts os Q) : awl P f63b15 Q ts os = awl P (.seq (.region f63r14) f63b13) Q ts os := id rfl
def f63b16 : AQ := (.seq f63b15 f63b12)
theorem uf63b16 (P ts os Q) : awl P f63b16 Q ts os = awl P (.seq f63b15 f63b12) Q ts os := id rfl
def f63l17 : AQ := .loop [1, 2, 5] [2] f63b16
theorem uf63l17 (P ts os Q) : awl P f63l17 Q ts os = awl P (.loop [1, 2, 5] [2] f63b16) Q ts os := id rfl
def f63b18 : AQ := (.block 0 f63l17)
theorem uf63b18 (P ts os Q) : awl P f63b18 Q ts os = awl P (.block 0 f63l17) Q ts os := id rfl
def f63r19 : List AI := [⟨none, (.mov 5 (.v (.k (.c (.int .i64 0)))))⟩]
theorem uf63r19 : type_of% @f63r19.eq_1 := id @f63r19.eq_1
def f63b20 : AQ := (.seq (.region f63r19) f63b18)
theorem uf63b20 (P ts os Q) : awl P f63b20 Q ts os = awl P (.seq (.region f63r19) f63b18) Q ts os := id rfl
def f63b21 : AQ := (.seq f63b20 f63b2)
theorem uf63b21 (P ts os Q) : awl P f63b21 Q ts os = awl P (.seq f63b20 f63b2) Q ts os := id rfl
def f63r22 : List AI := [⟨none, (.faddr 10 1 (.t 2))⟩, ⟨none, (.load 11 1 false (.t 10))⟩, ⟨none, (.mov 12 (.t 1))⟩, ⟨none, (.bin 13 .eql (.t 11) (.t 12))⟩, ⟨none, (.mov 4 (.t 13))⟩]
theorem uf63r22 : type_of% @f63r22.eq_1 := id @f63r22.eq_1
def f63b23 : AQ := (.seq (.region f63r22) .ret)
theorem uf63b23 (P ts os Q) : awl P f63b23 Q ts os = awl P (.seq (.region f63r22) .ret) Q ts os := id rfl
def f63b24 : AQ := (.cond (.t 9) f63b23 .skip)
theorem uf63b24 (P ts os Q) : awl P f63b24 Q ts os = awl P (.cond (.t 9) f63b23 .skip) Q ts os := id rfl
def f63r25 : List AI := [⟨none, (.faddr 7 0 (.t 2))⟩, ⟨none, (.load 8 1 false (.t 7))⟩, ⟨none, (.bin 9 .eql (.t 8) (.v (.k (.c (.int .i64 2)))))⟩]
theorem uf63r25 : type_of% @f63r25.eq_1 := id @f63r25.eq_1
def f63b26 : AQ := (.seq (.region f63r25) f63b24)
theorem uf63b26 (P ts os Q) : awl P f63b26 Q ts os = awl P (.seq (.region f63r25) f63b24) Q ts os := id rfl
def f63b27 : AQ := (.seq f63b26 f63b21)
theorem uf63b27 (P ts os Q) : awl P f63b27 Q ts os = awl P (.seq f63b26 f63b21) Q ts os := id rfl
def f63r28 : List AI := [⟨none, (.box 2 41 (.t 0))⟩, ⟨none, (.mov 4 (.v (.k (.c (.bool false)))))⟩]
theorem uf63r28 : type_of% @f63r28.eq_1 := id @f63r28.eq_1
def f63b29 : AQ := (.seq (.region f63r28) f63b27)
theorem uf63b29 (P ts os Q) : awl P f63b29 Q ts os = awl P (.seq (.region f63r28) f63b27) Q ts os := id rfl
def f63 : AQ := f63b29
theorem uf63 (P ts os Q) : awl P f63 Q ts os = awl P f63b29 Q ts os := id rfl
theorem hf63 : cFunc Try.prog 63 = some ⟨29, f63.erase, [(RX.t 4)]⟩ := by kernel_rfl
theorem okf63 : f63.ok = true := by kernel_rfl
/-! ### function 67 -/
def f67r1 : List AI := [⟨none, (.mov 4 (.v (.k (.c (.int .i64 (-1))))))⟩]
theorem uf67r1 : type_of% @f67r1.eq_1 := id @f67r1.eq_1
def f67b2 : AQ := (.seq (.region f67r1) .ret)
theorem uf67b2 (P ts os Q) : awl P f67b2 Q ts os = awl P (.seq (.region f67r1) .ret) Q ts os := id rfl
def f67r3 : List AI := [⟨none, (.bin 18 .add (.t 8) (.v (.k (.c (.int .i64 1)))))⟩, ⟨none, (.mov 8 (.t 18))⟩]
theorem uf67r3 : type_of% @f67r3.eq_1 := id @f67r3.eq_1
def f67r4 : List AI := [⟨none, (.mov 17 (.t 5))⟩, ⟨none, (.mov 4 (.t 17))⟩]
theorem uf67r4 : type_of% @f67r4.eq_1 := id @f67r4.eq_1
def f67b5 : AQ := (.seq (.region f67r4) .ret)
theorem uf67b5 (P ts os Q) : awl P f67b5 Q ts os = awl P (.seq (.region f67r4) .ret) Q ts os := id rfl
def f67b6 : AQ := (.cond (.t 16) f67b5 .skip)
theorem uf67b6 (P ts os Q) : awl P f67b6 Q ts os = awl P (.cond (.t 16) f67b5 .skip) Q ts os := id rfl
def f67r7 : List AI := [⟨none, (.mov 11 (.t 1))⟩, ⟨none, (.mov 12 (.t 0))⟩, ⟨none, (.mov 13 (.t 5))⟩, ⟨none, (.iaddr 14 4 (.t 12) (.t 13))⟩, ⟨none, (.load 15 4 true (.t 14))⟩, ⟨none, (.callv (some 16) (.t 11) [(.t 15)])⟩]
theorem uf67r7 : type_of% @f67r7.eq_1 := id @f67r7.eq_1
def f67b8 : AQ := (.seq (.region f67r7) f67b6)
theorem uf67b8 (P ts os Q) : awl P f67b8 Q ts os = awl P (.seq (.region f67r7) f67b6) Q ts os := id rfl
def f67r9 : List AI := [⟨none, (.mov 10 (.t 8))⟩, ⟨none, (.mov 5 (.t 10))⟩]
theorem uf67r9 : type_of% @f67r9.eq_1 := id @f67r9.eq_1
def f67b10 : AQ := (.seq (.region f67r9) f67b8)
theorem uf67b10 (P ts os Q) : awl P f67b10 Q ts os = awl P (.seq (.region f67r9) f67b8) Q ts os := id rfl
def f67b11 : AQ := (.block 1 f67b10)
theorem uf67b11 (P ts os Q) : awl P f67b11 Q ts os = awl P (.block 1 f67b10) Q ts os := id rfl
def f67b12 : AQ := (.seq f67b11 (.region f67r3))
theorem uf67b12 (P ts os Q) : awl P f67b12 Q ts os = awl P (.seq f67b11 (.region f67r3)) Q ts os := id rfl
def f67b13 : AQ := (.cond (.t 9) .skip (.exit 0))
theorem uf67b13 (P ts os Q) : awl P f67b13 Q ts os = awl P (.cond (.t 9) .skip (.exit 0)) Q ts os := id rfl
def f67b14 : AQ := (.seq f67b13 f67b12)
theorem uf67b14 (P ts os Q) : awl P f67b14 Q ts os = awl P (.seq f67b13 f67b12) Q ts os := id rfl
def f67r15 : List AI := [⟨none, (.bin 9 .lss (.t 8) (.t 7))⟩]
theorem uf67r15 : type_of% @f67r15.eq_1 := id @f67r15.eq_1
def f67b16 : AQ := (.seq (.region f67r15) f67b14)
theorem uf67b16 (P ts os Q) : awl P f67b16 Q ts os = awl P (.seq (.region f67r15) f67b14) Q ts os := id rfl
def f67l17 : AQ := .loop [0, 1, 7, 8] [] f67b16
theorem uf67l17 (P ts os Q) : awl P f67l17 Q ts os = awl P (.loop [0, 1, 7, 8] [] f67b16) Q ts os := id rfl
def f67b18 : AQ := (.block 0 f67l17)
theorem uf67b18 (P ts os Q) : awl P f67b18 Q ts os = awl P (.block 0 f67l17) Q ts os := id rfl
def f67r19 : List AI := [⟨none, (.mov 6 (.t 0))⟩, ⟨none, (.len 7 (.t 6))⟩, ⟨none, (.mov 8 (.v (.k (.c (.int .i64 0)))))⟩]
theorem uf67r19 : type_of% @f67r19.eq_1 := id @f67r19.eq_1
def f67b20 : AQ := (.seq (.region f67r19) f67b18)
theorem uf67b20 (P ts os Q) : awl P f67b20 Q ts os = awl P (.seq (.region f67r19) f67b18) Q ts os := id rfl
def f67b21 : AQ := (.seq f67b20 f67b2)
theorem uf67b21 (P ts os Q) : awl P f67b21 Q ts os = awl P (.seq f67b20 f67b2) Q ts os := id rfl
def f67r22 : List AI := [⟨none, (.mov 4 (.v (.k (.c (.int .i64 0)))))⟩]
theorem uf67r22 : type_of% @f67r22.eq_1 := id @f67r22.eq_1
def f67b23 : AQ := (.seq (.region f67r22) f67b21)
theorem uf67b23 (P ts os Q) : awl P f67b23 Q ts os = awl P (.seq (.region f67r22) f67b21) Q ts os := id rfl
def f67 : AQ := f67b23
theorem uf67 (P ts os Q) : awl P f67 Q ts os = awl P f67b23 Q ts os := id rfl
theorem hf67 : cFunc Try.prog 67 = some ⟨19, f67.erase, [(RX.t 4)]⟩ := by kernel_rfl
theorem okf67 : f67.ok = true := by kernel_rfl
/-! ### function 70 -/
def f70r1 : List AI := [⟨none, (.mov 4 (.v (.k (.c (.int .i64 (-1))))))⟩]
theorem uf70r1 : type_of% @f70r1.eq_1 := id @f70r1.eq_1
def f70b2 : AQ := (.seq (.region f70r1) .ret)
theorem uf70b2 (P ts os Q) : awl P f70b2 Q ts os = awl P (.seq (.region f70r1) .ret) Q ts os := id rfl
def f70r3 : List AI := [⟨none, (.bin 18 .add (.t 8) (.v (.k (.c (.int .i64 1)))))⟩, ⟨none, (.mov 8 (.t 18))⟩]
theorem uf70r3 : type_of% @f70r3.eq_1 := id @f70r3.eq_1
def f70r4 : List AI := [⟨none, (.mov 17 (.t 5))⟩, ⟨none, (.mov 4 (.t 17))⟩]
theorem uf70r4 : type_of% @f70r4.eq_1 := id @f70r4.eq_1
def f70b5 : AQ := (.seq (.region f70r4) .ret)
theorem uf70b5 (P ts os Q) : awl P f70b5 Q ts os = awl P (.seq (.region f70r4) .ret) Q ts os := id rfl
def f70b6 : AQ := (.cond (.t 16) f70b5 .skip)
theorem uf70b6 (P ts os Q) : awl P f70b6 Q ts os = awl P (.cond (.t 16) f70b5 .skip) Q ts os := id rfl
def f70r7 : List AI := [⟨none, (.mov 11 (.t 1))⟩, ⟨none, (.mov 12 (.t 0))⟩, ⟨none, (.mov 13 (.t 5))⟩, ⟨none, (.iaddr 14 1 (.t 12) (.t 13))⟩, ⟨none, (.load 15 1 false (.t 14))⟩, ⟨none, (.callv (some 16) (.t 11) [(.t 15)])⟩]
theorem uf70r7 : type_of% @f70r7.eq_1 := id @f70r7.eq_1
def f70b8 : AQ := (.seq (.region f70r7) f70b6)
theorem uf70b8 (P ts os Q) : awl P f70b8 Q ts os = awl P (.seq (.region f70r7) f70b6) Q ts os := id rfl
def f70r9 : List AI := [⟨none, (.mov 10 (.t 8))⟩, ⟨none, (.mov 5 (.t 10))⟩]
theorem uf70r9 : type_of% @f70r9.eq_1 := id @f70r9.eq_1
def f70b10 : AQ := (.seq (.region f70r9) f70b8)
theorem uf70b10 (P ts os Q) : awl P f70b10 Q ts os = awl P (.seq (.region f70r9) f70b8) Q ts os := id rfl
def f70b11 : AQ := (.block 1 f70b10)
theorem uf70b11 (P ts os Q) : awl P f70b11 Q ts os = awl P (.block 1 f70b10) Q ts os := id rfl
def f70b12 : AQ := (.seq f70b11 (.region f70r3))
theorem uf70b12 (P ts os Q) : awl P f70b12 Q ts os = awl P (.seq f70b11 (.region f70r3)) Q ts os := id rfl
def f70b13 : AQ := (.cond (.t 9) .skip (.exit 0))
theorem uf70b13 (P ts os Q) : awl P f70b13 Q ts os = awl P (.cond (.t 9) .skip (.exit 0)) Q ts os := id rfl
def f70b14 : AQ := (.seq f70b13 f70b12)
theorem uf70b14 (P ts os Q) : awl P f70b14 Q ts os = awl P (.seq f70b13 f70b12) Q ts os := id rfl
def f70r15 : List AI := [⟨none, (.bin 9 .lss (.t 8) (.t 7))⟩]
theorem uf70r15 : type_of% @f70r15.eq_1 := id @f70r15.eq_1
def f70b16 : AQ := (.seq (.region f70r15) f70b14)
theorem uf70b16 (P ts os Q) : awl P f70b16 Q ts os = awl P (.seq (.region f70r15) f70b14) Q ts os := id rfl
def f70l17 : AQ := .loop [0, 1, 7, 8] [] f70b16
theorem uf70l17 (P ts os Q) : awl P f70l17 Q ts os = awl P (.loop [0, 1, 7, 8] [] f70b16) Q ts os := id rfl
def f70b18 : AQ := (.block 0 f70l17)
theorem uf70b18 (P ts os Q) : awl P f70b18 Q ts os = awl P (.block 0 f70l17) Q ts os := id rfl
def f70r19 : List AI := [⟨none, (.mov 6 (.t 0))⟩, ⟨none, (.len 7 (.t 6))⟩, ⟨none, (.mov 8 (.v (.k (.c (.int .i64 0)))))⟩]
theorem uf70r19 : type_of% @f70r19.eq_1 := id @f70r19.eq_1
def f70b20 : AQ := (.seq (.region f70r19) f70b18)
theorem uf70b20 (P ts os Q) : awl P f70b20 Q ts os = awl P (.seq (.region f70r19) f70b18) Q ts os := id rfl
def f70b21 : AQ := (.seq f70b20 f70b2)
theorem uf70b21 (P ts os Q) : awl P f70b21 Q ts os = awl P (.seq f70b20 f70b2) Q ts os := id rfl
def f70r22 : List AI := [⟨none, (.mov 4 (.v (.k (.c (.int .i64 0)))))⟩]
theorem uf70r22 : type_of% @f70r22.eq_1 := id @f70r22.eq_1
def f70b23 : AQ := (.seq (.region f70r22) f70b21)
theorem uf70b23 (P ts os Q) : awl P f70b23 Q ts os = awl P (.seq (.region f70r22) f70b21) Q ts os := id rfl
def f70 : AQ := f70b23
theorem uf70 (P ts os Q) : awl P f70 Q ts os = awl P f70b23 Q ts os := id rfl
theorem hf70 : cFunc Try.prog 70 = some ⟨19, f70.erase, [(RX.t 4)]⟩ := by kernel_rfl
theorem okf70 : f70.ok = true := by kernel_rfl
/-! ### function 71 -/
def f71r1 : List AI := [⟨none, (.mov 38 (.t 4))⟩, ⟨none, (.mov 2 (.t 38))⟩, ⟨none, (.mov 3 (.v (.k (.c (.int .i64 0)))))⟩]
theorem uf71r1 : type_of% @f71r1.eq_1 := id @f71r1.eq_1
def f71b2 : AQ := (.seq (.region f71r1) .ret)
theorem uf71b2 (P ts os Q) : awl P f71b2 Q ts os = awl P (.seq (.region f71r1) .ret) Q ts os := id rfl
def f71r3 : List AI := [⟨none, (.mov 2 (.v (.k (.c (.int .i64 0)))))⟩, ⟨none, (.mov 3 (.v (.k (.c (.int .i64 10)))))⟩]
theorem uf71r3 : type_of% @f71r3.eq_1 := id @f71r3.eq_1
def f71b4 : AQ := (.seq (.region f71r3) .ret)
theorem uf71b4 (P ts os Q) : awl P f71b4 Q ts os = awl P (.seq (.region f71r3) .ret) Q ts os := id rfl
def f71b5 : AQ := (.cond (.t 37) f71b4 .skip)
theorem uf71b5 (P ts os Q) : awl P f71b5 Q ts os = awl P (.cond (.t 37) f71b4 .skip) Q ts os := id rfl
def f71r6 : List AI := [⟨none, (.mov 36 (.t 5))⟩, ⟨none, (.un 37 .not (.t 36))⟩]
theorem uf71r6 : type_of% @f71r6.eq_1 := id @f71r6.eq_1
def f71b7 : AQ := (.seq (.region f71r6) f71b5)
theorem uf71b7 (P ts os Q) : awl P f71b7 Q ts os = awl P (.seq (.region f71r6) f71b5) Q ts os := id rfl
def f71b8 : AQ := (.seq f71b7 f71b2)
theorem uf71b8 (P ts os Q) : awl P f71b8 Q ts os = awl P (.seq f71b7 f71b2) Q ts os := id rfl
def f71r9 : List AI := [⟨none, (.faddr 31 1 (.t 1))⟩, ⟨none, (.load 32 1 false (.t 31))⟩, ⟨none, (.call (some 33) 33 [(.t 32)])⟩, ⟨none, (.mov 30 (.t 33))⟩, ⟨none, (.extr 34 (.t 30) 0)⟩, ⟨none, (.extr 35 (.t 30) 1)⟩, ⟨none, (.mov 4 (.t 34))⟩, ⟨none, (.mov 5 (.t 35))⟩]
theorem uf71r9 : type_of% @f71r9.eq_1 := id @f71r9.eq_1
def f71b10 : AQ := (.seq (.region f71r9) f71b8)
theorem uf71b10 (P ts os Q) : awl P f71b10 Q ts os = awl P (.seq (.region f71r9) f71b8) Q ts os := id rfl
def f71r11 : List AI := [⟨none, (.mov 2 (.v (.k (.c (.int .i64 0)))))⟩, ⟨none, (.mov 3 (.v (.k (.c (.int .i64 0)))))⟩]
theorem uf71r11 : type_of% @f71r11.eq_1 := id @f71r11.eq_1
def f71b12 : AQ := (.seq (.region f71r11) .ret)
theorem uf71b12 (P ts os Q) : awl P f71b12 Q ts os = awl P (.seq (.region f71r11) .ret) Q ts os := id rfl
def f71r13 : List AI := [⟨none, (.mov 2 (.v (.k (.c (.int .i64 0)))))⟩, ⟨none, (.mov 3 (.v (.k (.c (.int .i64 3)))))⟩]
theorem uf71r13 : type_of% @f71r13.eq_1 := id @f71r13.eq_1
def f71b14 : AQ := (.seq (.region f71r13) .ret)
theorem uf71b14 (P ts os Q) : awl P f71b14 Q ts os = awl P (.seq (.region f71r13) .ret) Q ts os := id rfl
def f71b15 : AQ := (.cond (.t 19) f71b14 .skip)
theorem uf71b15 (P ts os Q) : awl P f71b15 Q ts os = awl P (.cond (.t 19) f71b14 .skip) Q ts os := id rfl
def f71r16 : List AI := [⟨none, (.faddr 14 1 (.t 1))⟩, ⟨none, (.load 15 1 false (.t 14))⟩, ⟨none, (.call (some 16) 93 [(.t 15)])⟩, ⟨none, (.faddr 17 1 (.t 1))⟩, ⟨none, (.load 18 1 false (.t 17))⟩, ⟨none, (.bin 19 .neq (.t 16) (.t 18))⟩]
theorem uf71r16 : type_of% @f71r16.eq_1 := id @f71r16.eq_1
def f71b17 : AQ := (.seq (.draw f71r16 [[], [0], [1], [], [3], [2, 4]]) f71b15)
theorem uf71b17 (P ts os Q) : awl P f71b17 Q ts os = awl P (.seq (.draw f71r16 [[], [0], [1], [], [3], [2, 4]]) f71b15) Q ts os := id rfl
def f71b18 : AQ := (.seq f71b17 f71b12)
theorem uf71b18 (P ts os Q) : awl P f71b18 Q ts os = awl P (.seq f71b17 f71b12) Q ts os := id rfl
def f71r19 : List AI := [⟨none, (.mov 2 (.v (.k (.c (.int .i64 1)))))⟩, ⟨none, (.mov 3 (.v (.k (.c (.int .i64 0)))))⟩]
theorem uf71r19 : type_of% @f71r19.eq_1 := id @f71r19.eq_1
def f71b20 : AQ := (.seq (.region f71r19) .ret)
theorem uf71b20 (P ts os Q) : awl P f71b20 Q ts os = awl P (.seq (.region f71r19) .ret) Q ts os := id rfl
def f71r21 : List AI := [⟨none, (.mov 2 (.v (.k (.c (.int .i64 0)))))⟩, ⟨none, (.mov 3 (.v (.k (.c (.int .i64 3)))))⟩]
theorem uf71r21 : type_of% @f71r21.eq_1 := id @f71r21.eq_1
def f71b22 : AQ := (.seq (.region f71r21) .ret)
theorem uf71b22 (P ts os Q) : awl P f71b22 Q ts os = awl P (.seq (.region f71r21) .ret) Q ts os := id rfl
def f71b23 : AQ := (.cond (.t 29) f71b22 .skip)
theorem uf71b23 (P ts os Q) : awl P f71b23 Q ts os = awl P (.cond (.t 29) f71b22 .skip) Q ts os := id rfl
def f71r24 : List AI := [⟨none, (.faddr 22 1 (.t 1))⟩, ⟨none, (.load 23 1 false (.t 22))⟩, ⟨none, (.bin 24 .lss (.t 23) (.v (.k (.c (.int .i64 0)))))⟩, ⟨none, (.mov 25 (.t 24))⟩, ⟨(some (25, false)), (.faddr 26 1 (.t 1))⟩, ⟨(some (25, false)), (.load 27 1 false (.t 26))⟩, ⟨(some (25, false)), (.bin 28 .gtr (.t 27) (.v (.k (.c (.int .i64 1)))))⟩, ⟨none, (.pick 29 (.t 25) (.v (.k (.c (.bool true)))) (.t 28))⟩]
theorem uf71r24 : type_of% @f71r24.eq_1 := id @f71r24.eq_1
def f71b25 : AQ := (.seq (.region f71r24) f71b23)
theorem uf71b25 (P ts os Q) : awl P f71b25 Q ts os = awl P (.seq (.region f71r24) f71b23) Q ts os := id rfl
def f71b26 : AQ := (.seq f71b25 f71b20)
theorem uf71b26 (P ts os Q) : awl P f71b26 Q ts os = awl P (.seq f71b25 f71b20) Q ts os := id rfl
def f71b27 : AQ := (.cond (.t 20) f71b26 .skip)
theorem uf71b27 (P ts os Q) : awl P f71b27 Q ts os = awl P (.cond (.t 20) f71b26 .skip) Q ts os := id rfl
def f71r28 : List AI := [⟨none, (.bin 21 .eql (.t 11) (.v (.k (.c (.int .i64 1)))))⟩, ⟨none, (.mov 20 (.t 21))⟩]
theorem uf71r28 : type_of% @f71r28.eq_1 := id @f71r28.eq_1
def f71b29 : AQ := (.seq (.region f71r28) f71b27)
theorem uf71b29 (P ts os Q) : awl P f71b29 Q ts os = awl P (.seq (.region f71r28) f71b27) Q ts os := id rfl
def f71b30 : AQ := (.cond (.t 12) f71b18 f71b29)
theorem uf71b30 (P ts os Q) : awl P f71b30 Q ts os = awl P (.cond (.t 12) f71b18 f71b29) Q ts os := id rfl
def f71r31 : List AI := [⟨none, (.bin 13 .eql (.t 11) (.v (.k (.c (.int .i64 0)))))⟩, ⟨none, (.mov 12 (.t 13))⟩]
theorem uf71r31 : type_of% @f71r31.eq_1 := id @f71r31.eq_1
def f71b32 : AQ := (.seq (.region f71r31) f71b30)
theorem uf71b32 (P ts os Q) : awl P f71b32 Q ts os = awl P (.seq (.region f71r31) f71b30) Q ts os := id rfl
def f71b33 : AQ := (.block 0 f71b32)
theorem uf71b33 (P ts os Q) : awl P f71b33 Q ts os = awl P (.block 0 f71b32) Q ts os := id rfl
def f71r34 : List AI := [⟨none, (.faddr 10 0 (.t 1))⟩, ⟨none, (.load 11 1 false (.t 10))⟩]
theorem uf71r34 : type_of% @f71r34.eq_1 := id @f71r34.eq_1
def f71b35 : AQ := (.seq (.region f71r34) f71b33)
theorem uf71b35 (P ts os Q) : awl P f71b35 Q ts os = awl P (.seq (.region f71r34) f71b33) Q ts os := id rfl
def f71b36 : AQ := (.seq f71b35 f71b10)
theorem uf71b36 (P ts os Q) : awl P f71b36 Q ts os = awl P (.seq f71b35 f71b10) Q ts os := id rfl
def f71r37 : List AI := [⟨none, (.mov 2 (.v (.k (.c (.int .i64 0)))))⟩, ⟨none, (.mov 3 (.v (.k (.c (.int .i64 2)))))⟩]
theorem uf71r37 : type_of% @f71r37.eq_1 := id @f71r37.eq_1
def f71b38 : AQ := (.seq (.region f71r37) .ret)
theorem uf71b38 (P ts os Q) : awl P f71b38 Q ts os = awl P (.seq (.region f71r37) .ret) Q ts os := id rfl
def f71b39 : AQ := (.cond (.t 9) f71b38 .skip)
theorem uf71b39 (P ts os Q) : awl P f71b39 Q ts os = awl P (.cond (.t 9) f71b38 .skip) Q ts os := id rfl
def f71r40 : List AI := [⟨none, (.faddr 6 2 (.t 1))⟩, ⟨none, (.load 7 1 false (.t 6))⟩, ⟨none, (.len 8 (.t 7))⟩, ⟨none, (.bin 9 .gtr (.t 8) (.v (.k (.c (.int .i64 0)))))⟩]
theorem uf71r40 : type_of% @f71r40.eq_1 := id @f71r40.eq_1
def f71b41 : AQ := (.seq (.region f71r40) f71b39)
theorem uf71b41 (P ts os Q) : awl P f71b41 Q ts os = awl P (.seq (.region f71r40) f71b39) Q ts os := id rfl
def f71b42 : AQ := (.seq f71b41 f71b36)
theorem uf71b42 (P ts os Q) : awl P f71b42 Q ts os = awl P (.seq f71b41 f71b36) Q ts os := id rfl
def f71r43 : List AI := [⟨none, (.box 1 41 (.t 0))⟩, ⟨none, (.mov 2 (.v (.k (.c (.int .i64 0)))))⟩, ⟨none, (.mov 3 (.v (.k (.c (.int .i64 0)))))⟩]
theorem uf71r43 : type_of% @f71r43.eq_1 := id @f71r43.eq_1
def f71b44 : AQ := (.seq (.region f71r43) f71b42)
theorem uf71b44 (P ts os Q) : awl P f71b44 Q ts os = awl P (.seq (.region f71r43) f71b42) Q ts os := id rfl
def f71 : AQ := f71b44
theorem uf71 (P ts os Q) : awl P f71 Q ts os = awl P f71b44 Q ts os := id rfl
theorem hf71 : cFunc Try.prog 71 = some ⟨39, f71.erase, [(RX.t 2), (RX.t 3)]⟩ := by kernel_rfl
theorem okf71 : f71.ok = true := by kernel_rfl
/-! ### function 72 -/
def f72r1 : List AI := [⟨none, (.bslice 25 3 1 [(.int .i64 0)] 2 [(0, (.v (.k (.c (.int .i64 0))))), (1, (.v (.k (.c (.int .i64 0)))))])⟩, ⟨none, (.build 26 [(.list 0 (some true) []), (.int .i64 0)] [(0, (1, (.t 25))), (1, (1, (.v (.k (.c (.int .i64 0))))))])⟩, ⟨none, (.store 2 (.t 2) (.t 26))⟩]
theorem uf72r1 : type_of% @f72r1.eq_1 := id @f72r1.eq_1
def f72b2 : AQ := (.seq (.region f72r1) .ret)
theorem uf72b2 (P ts os Q) : awl P f72b2 Q ts os = awl P (.seq (.region f72r1) .ret) Q ts os := id rfl
def f72r3 : List AI := [⟨none, (.bslice 6 3 1 [(.int .i64 0)] 1 [(0, (.v (.k (.c (.int .i64 1)))))])⟩, ⟨none, (.build 7 [(.list 0 (some true) []), (.int .i64 0)] [(0, (1, (.t 6))), (1, (1, (.v (.k (.c (.int .i64 1))))))])⟩, ⟨none, (.store 2 (.t 2) (.t 7))⟩]
theorem uf72r3 : type_of% @f72r3.eq_1 := id @f72r3.eq_1
def f72b4 : AQ := (.seq (.region f72r3) .ret)
theorem uf72b4 (P ts os Q) : awl P f72b4 Q ts os = awl P (.seq (.region f72r3) .ret) Q ts os := id rfl
def f72r5 : List AI := [⟨none, (.bslice 11 3 1 [(.int .i64 0)] 2 [(0, (.v (.k (.c (.int .i64 1))))), (1, (.v (.k (.c (.int .i64 1)))))])⟩, ⟨none, (.build 12 [(.list 0 (some true) []), (.int .i64 0)] [(0, (1, (.t 11))), (1, (1, (.v (.k (.c (.int .i64 1))))))])⟩, ⟨none, (.store 2 (.t 2) (.t 12))⟩]
theorem uf72r5 : type_of% @f72r5.eq_1 := id @f72r5.eq_1
def f72b6 : AQ := (.seq (.region f72r5) .ret)
theorem uf72b6 (P ts os Q) : awl P f72b6 Q ts os = awl P (.seq (.region f72r5) .ret) Q ts os := id rfl
def f72r7 : List AI := [⟨none, (.bslice 15 3 1 [(.int .i64 0)] 3 [(0, (.v (.k (.c (.int .i64 1))))), (1, (.v (.k (.c (.int .i64 (-1)))))), (2, (.v (.k (.c (.int .i64 (-1))))))])⟩, (AI.mk none (.build 16 [(.list 0 (some true) []), (.int .i64 0)] [(0, (1, (.t 15))), (1, (1, (.v (.k (.c (.int .i64 (-1)))))))])), ⟨none, (.store 2 (.t 2) (.t 16))⟩]
theorem uf72r7 : type_of% @f72r7.eq_1 := id @f72r7.eq_1
def f72b8 : AQ := (.seq (.region f72r7) .ret)
theorem uf72b8 (P ts os Q) : awl P f72b8 Q ts os = awl P (.seq (.region f72r7) .ret) Q ts os := id rfl
def f72r9 : List AI := [⟨none, (.bslice 19 3 1 [(.int .i64 0)] 2 [(0, (.v (.k (.c (.int .i64 0))))), (1, (.v (.k (.c (.int .i64 0)))))])⟩, ⟨none, (.build 20 [(.list 0 (some true) []), (.int .i64 0)] [(0, (1, (.t 19))), (1, (1, (.v (.k (.c (.int .i64 1))))))])⟩, ⟨none, (.store 2 (.t 2) (.t 20))⟩]
theorem uf72r9 : type_of% @f72r9.eq_1 := id @f72r9.eq_1
def f72b10 : AQ := (.seq (.region f72r9) .ret)
theorem uf72b10 (P ts os Q) : awl P f72b10 Q ts os = awl P (.seq (.region f72r9) .ret) Q ts os := id rfl
def f72r11 : List AI := [⟨none, (.bslice 23 3 1 [(.int .i64 0)] 2 [(0, (.v (.k (.c (.int .i64 (-1)))))), (1, (.v (.k (.c (.int .i64 (-1))))))])⟩, ⟨none, (.build 24 [(.list 0 (some true) []), (.int .i64 0)] [(0, (1, (.t 23))), (1, (1, (.v (.k (.c (.int .i64 1))))))])⟩, ⟨none, (.store 2 (.t 2) (.t 24))⟩]
theorem uf72r11 : type_of% @f72r11.eq_1 := id @f72r11.eq_1
def f72b12 : AQ := (.seq (.region f72r11) .ret)
theorem uf72b12 (P ts os Q) : awl P f72b12 Q ts os = awl P (.seq (.region f72r11) .ret) Q ts os := id rfl
def f72b13 : AQ := (.cond (.t 21) f72b12 .skip)
theorem uf72b13 (P ts os Q) : awl P f72b13 Q ts os = awl P (.cond (.t 21) f72b12 .skip) Q ts os := id rfl
def f72r14 : List AI := [⟨none, (.bin 22 .eql (.t 3) (.v (.k (.c (.int .i64 8)))))⟩, ⟨none, (.mov 21 (.t 22))⟩]
theorem uf72r14 : type_of% @f72r14.eq_1 := id @f72r14.eq_1
def f72b15 : AQ := (.seq (.region f72r14) f72b13)
theorem uf72b15 (P ts os Q) : awl P f72b15 Q ts os = awl P (.seq (.region f72r14) f72b13) Q ts os := id rfl
def f72b16 : AQ := (.cond (.t 17) f72b10 f72b15)
theorem uf72b16 (P ts os Q) : awl P f72b16 Q ts os = awl P (.cond (.t 17) f72b10 f72b15) Q ts os := id rfl
def f72r17 : List AI := [⟨none, (.bin 18 .eql (.t 3) (.v (.k (.c (.int .i64 7)))))⟩, ⟨none, (.mov 17 (.t 18))⟩]
theorem uf72r17 : type_of% @f72r17.eq_1 := id @f72r17.eq_1
def f72b18 : AQ := (.seq (.region f72r17) f72b16)
theorem uf72b18 (P ts os Q) : awl P f72b18 Q ts os = awl P (.seq (.region f72r17) f72b16) Q ts os := id rfl
def f72b19 : AQ := (.cond (.t 13) f72b8 f72b18)
theorem uf72b19 (P ts os Q) : awl P f72b19 Q ts os = awl P (.cond (.t 13) f72b8 f72b18) Q ts os := id rfl
def f72r20 : List AI := [⟨none, (.bin 14 .eql (.t 3) (.v (.k (.c (.int .i64 6)))))⟩, ⟨none, (.mov 13 (.t 14))⟩]
theorem uf72r20 : type_of% @f72r20.eq_1 := id @f72r20.eq_1
def f72b21 : AQ := (.seq (.region f72r20) f72b19)
theorem uf72b21 (P ts os Q) : awl P f72b21 Q ts os = awl P (.seq (.region f72r20) f72b19) Q ts os := id rfl
def f72b22 : AQ := (.cond (.t 8) f72b6 f72b21)
theorem uf72b22 (P ts os Q) : awl P f72b22 Q ts os = awl P (.cond (.t 8) f72b6 f72b21) Q ts os := id rfl
def f72r23 : List AI := [⟨none, (.bin 10 .eql (.t 3) (.v (.k (.c (.int .i64 5)))))⟩, ⟨none, (.mov 8 (.t 10))⟩]
theorem uf72r23 : type_of% @f72r23.eq_1 := id @f72r23.eq_1
def f72b24 : AQ := (.cond (.t 8) .skip (.region f72r23))
theorem uf72b24 (P ts os Q) : awl P f72b24 Q ts os = awl P (.cond (.t 8) .skip (.region f72r23)) Q ts os := id rfl
def f72r25 : List AI := [⟨none, (.bin 9 .eql (.t 3) (.v (.k (.c (.int .i64 4)))))⟩, ⟨none, (.mov 8 (.t 9))⟩]
theorem uf72r25 : type_of% @f72r25.eq_1 := id @f72r25.eq_1
def f72b26 : AQ := (.seq (.region f72r25) f72b24)
theorem uf72b26 (P ts os Q) : awl P f72b26 Q ts os = awl P (.seq (.region f72r25) f72b24) Q ts os := id rfl
def f72b27 : AQ := (.seq f72b26 f72b22)
theorem uf72b27 (P ts os Q) : awl P f72b27 Q ts os = awl P (.seq f72b26 f72b22) Q ts os := id rfl
def f72b28 : AQ := (.cond (.t 4) f72b4 f72b27)
theorem uf72b28 (P ts os Q) : awl P f72b28 Q ts os = awl P (.cond (.t 4) f72b4 f72b27) Q ts os := id rfl
def f72r29 : List AI := [⟨none, (.bin 5 .eql (.t 3) (.v (.k (.c (.int .i64 3)))))⟩, ⟨none, (.mov 4 (.t 5))⟩]
theorem uf72r29 : type_of% @f72r29.eq_1 := id @f72r29.eq_1
def f72b30 : AQ := (.seq (.region f72r29) f72b28)
theorem uf72b30 (P ts os Q) : awl P f72b30 Q ts os = awl P (.seq (.region f72r29) f72b28) Q ts os := id rfl
def f72b31 : AQ := (.block 0 f72b30)
theorem uf72b31 (P ts os Q) : awl P f72b31 Q ts os = awl P (.block 0 f72b30) Q ts os := id rfl
def f72r32 : List AI := [⟨none, (.mov 3 (.t 0))⟩]
theorem uf72r32 : type_of% @f72r32.eq_1 := id @f72r32.eq_1
def f72b33 : AQ := (.seq (.region f72r32) f72b31)
theorem uf72b33 (P ts os Q) : awl P f72b33 Q ts os = awl P (.seq (.region f72r32) f72b31) Q ts os := id rfl
def f72b34 : AQ := (.seq f72b33 f72b2)
theorem uf72b34 (P ts os Q) : awl P f72b34 Q ts os = awl P (.seq f72b33 f72b2) Q ts os := id rfl
def f72r35 : List AI := [⟨none, (.alloc 2 92 [(.list 0 (some true) []), (.int .i64 0)])⟩]
theorem uf72r35 : type_of% @f72r35.eq_1 := id @f72r35.eq_1
def f72b36 : AQ := (.seq (.region f72r35) f72b34)
theorem uf72b36 (P ts os Q) : awl P f72b36 Q ts os = awl P (.seq (.region f72r35) f72b34) Q ts os := id rfl
def f72 : AQ := f72b36
theorem uf72 (P ts os Q) : awl P f72 Q ts os = awl P f72b36 Q ts os := id rfl
theorem hf72 : cFunc Try.prog 72 = some ⟨27, f72.erase, [(RX.cell 2 2 true)]⟩ := by kernel_rfl
theorem okf72 : f72.ok = true := by kernel_rfl
/-! ### function 73 -/
def f73r1 : List AI := [⟨none, (.mov 2 (.v (.k (.c (.int .i64 2)))))⟩]
theorem uf73r1 : type_of% @f73r1.eq_1 := id @f73r1.eq_1
def f73b2 : AQ := (.seq (.region f73r1) .ret)
theorem uf73b2 (P ts os Q) : awl P f73b2 Q ts os = awl P (.seq (.region f73r1) .ret) Q ts os := id rfl
def f73r3 : List AI := [⟨none, (.mov 2 (.v (.k (.c (.int .i64 0)))))⟩]
theorem uf73r3 : type_of% @f73r3.eq_1 := id @f73r3.eq_1
def f73b4 : AQ := (.seq (.region f73r3) .ret)
theorem uf73b4 (P ts os Q) : awl P f73b4 Q ts os = awl P (.seq (.region f73r3) .ret) Q ts os := id rfl
def f73r5 : List AI := [⟨none, (.mov 2 (.v (.k (.c (.int .i64 1)))))⟩]
theorem uf73r5 : type_of% @f73r5.eq_1 := id @f73r5.eq_1
def f73b6 : AQ := (.seq (.region f73r5) .ret)
theorem uf73b6 (P ts os Q) : awl P f73b6 Q ts os = awl P (.seq (.region f73r5) .ret) Q ts os := id rfl
def f73r7 : List AI := [⟨none, (.mov 2 (.v (.k (.c (.int .i64 3)))))⟩]
theorem uf73r7 : type_of% @f73r7.eq_1 := id @f73r7.eq_1
def f73b8 : AQ := (.seq (.region f73r7) .ret)
theorem uf73b8 (P ts os Q) : awl P f73b8 Q ts os = awl P (.seq (.region f73r7) .ret) Q ts os := id rfl
def f73b9 : AQ := (.cond (.t 10) f73b8 .skip)
theorem uf73b9 (P ts os Q) : awl P f73b9 Q ts os = awl P (.cond (.t 10) f73b8 .skip) Q ts os := id rfl
def f73r10 : List AI := [⟨none, (.bin 11 .eql (.t 3) (.v (.k (.c (.int .i64 6)))))⟩, ⟨none, (.mov 10 (.t 11))⟩]
theorem uf73r10 : type_of% @f73r10.eq_1 := id @f73r10.eq_1
def f73b11 : AQ := (.seq (.region f73r10) f73b9)
theorem uf73b11 (P ts os Q) : awl P f73b11 Q ts os = awl P (.seq (.region f73r10) f73b9) Q ts os := id rfl
def f73b12 : AQ := (.cond (.t 8) f73b6 f73b11)
theorem uf73b12 (P ts os Q) : awl P f73b12 Q ts os = awl P (.cond (.t 8) f73b6 f73b11) Q ts os := id rfl
def f73r13 : List AI := [⟨none, (.bin 9 .eql (.t 3) (.v (.k (.c (.int .i64 3)))))⟩, ⟨none, (.mov 8 (.t 9))⟩]
theorem uf73r13 : type_of% @f73r13.eq_1 := id @f73r13.eq_1
def f73b14 : AQ := (.seq (.region f73r13) f73b12)
theorem uf73b14 (P ts os Q) : awl P f73b14 Q ts os = awl P (.seq (.region f73r13) f73b12) Q ts os := id rfl
def f73b15 : AQ := (.cond (.t 4) f73b4 f73b14)
theorem uf73b15 (P ts os Q) : awl P f73b15 Q ts os = awl P (.cond (.t 4) f73b4 f73b14) Q ts os := id rfl
def f73r16 : List AI := [⟨none, (.bin 7 .eql (.t 3) (.v (.k (.c (.int .i64 2)))))⟩, ⟨none, (.mov 4 (.t 7))⟩]
theorem uf73r16 : type_of% @f73r16.eq_1 := id @f73r16.eq_1
def f73b17 : AQ := (.cond (.t 4) .skip (.region f73r16))
theorem uf73b17 (P ts os Q) : awl P f73b17 Q ts os = awl P (.cond (.t 4) .skip (.region f73r16)) Q ts os := id rfl
def f73r18 : List AI := [⟨none, (.bin 6 .eql (.t 3) (.v (.k (.c (.int .i64 1)))))⟩, ⟨none, (.mov 4 (.t 6))⟩]
theorem uf73r18 : type_of% @f73r18.eq_1 := id @f73r18.eq_1
def f73b19 : AQ := (.seq (.region f73r18) f73b17)
theorem uf73b19 (P ts os Q) : awl P f73b19 Q ts os = awl P (.seq (.region f73r18) f73b17) Q ts os := id rfl
def f73b20 : AQ := (.cond (.t 4) .skip f73b19)
theorem uf73b20 (P ts os Q) : awl P f73b20 Q ts os = awl P (.cond (.t 4) .skip f73b19) Q ts os := id rfl
def f73r21 : List AI := [⟨none, (.bin 5 .eql (.t 3) (.v (.k (.c (.int .i64 0)))))⟩, ⟨none, (.mov 4 (.t 5))⟩]
theorem uf73r21 : type_of% @f73r21.eq_1 := id @f73r21.eq_1
def f73b22 : AQ := (.seq (.region f73r21) f73b20)
theorem uf73b22 (P ts os Q) : awl P f73b22 Q ts os = awl P (.seq (.region f73r21) f73b20) Q ts os := id rfl
def f73b23 : AQ := (.seq f73b22 f73b15)
theorem uf73b23 (P ts os Q) : awl P f73b23 Q ts os = awl P (.seq f73b22 f73b15) Q ts os := id rfl
def f73b24 : AQ := (.block 0 f73b23)
theorem uf73b24 (P ts os Q) : awl P f73b24 Q ts os = awl P (.block 0 f73b23) Q ts os := id rfl
def f73r25 : List AI := [⟨none, (.mov 3 (.t 0))⟩]
theorem uf73r25 : type_of% @f73r25.eq_1 := id @f73r25.eq_1
def f73b26 : AQ := (.seq (.region f73r25) f73b24)
theorem uf73b26 (P ts os Q) : awl P f73b26 Q ts os = awl P (.seq (.region f73r25) f73b24) Q ts os := id rfl
def f73b27 : AQ := (.seq f73b26 f73b2)
theorem uf73b27 (P ts os Q) : awl P f73b27 Q ts os = awl P (.seq f73b26 f73b2) Q ts os := id rfl
def f73r28 : List AI := [⟨none, (.mov 2 (.v (.k (.c (.int .i64 0)))))⟩]
theorem uf73r28 : type_of% @f73r28.eq_1 := id @f73r28.eq_1
def f73b29 : AQ := (.seq (.region f73r28) f73b27)
theorem uf73b29 (P ts os Q) : awl P f73b29 Q ts os = awl P (.seq (.region f73r28) f73b27) Q ts os := id rfl
def f73 : AQ := f73b29
theorem uf73 (P ts os Q) : awl P f73 Q ts os = awl P f73b29 Q ts os := id rfl
theorem hf73 : cFunc Try.prog 73 = some ⟨12, f73.erase, [(RX.t 2)]⟩ := by kernel_rfl
theorem okf73 : f73.ok = true := by kernel_rfl
/-! ### function 74 -/
def f74r1 : List AI := [⟨none, (.mov 36 (.t 4))⟩, ⟨none, (.mov 2 (.t 36))⟩, ⟨none, (.mov 3 (.v (.k (.c (.int .i64 0)))))⟩]
theorem uf74r1 : type_of% @f74r1.eq_1 := id @f74r1.eq_1
def f74b2 : AQ := (.seq (.region f74r1) .ret)
theorem uf74b2 (P ts os Q) : awl P f74b2 Q ts os = awl P (.seq (.region f74r1) .ret) Q ts os := id rfl
def f74r3 : List AI := [⟨none, (.mov 2 (.v (.k (.c (.int .i64 0)))))⟩, ⟨none, (.mov 3 (.v (.k (.c (.int .i64 10)))))⟩]
theorem uf74r3 : type_of% @f74r3.eq_1 := id @f74r3.eq_1
def f74b4 : AQ := (.seq (.region f74r3) .ret)
theorem uf74b4 (P ts os Q) : awl P f74b4 Q ts os = awl P (.seq (.region f74r3) .ret) Q ts os := id rfl
def f74b5 : AQ := (.cond (.t 35) f74b4 .skip)
theorem uf74b5 (P ts os Q) : awl P f74b5 Q ts os = awl P (.cond (.t 35) f74b4 .skip) Q ts os := id rfl
def f74r6 : List AI := [⟨none, (.mov 34 (.t 5))⟩, ⟨none, (.un 35 .not (.t 34))⟩]
theorem uf74r6 : type_of% @f74r6.eq_1 := id @f74r6.eq_1
def f74b7 : AQ := (.seq (.region f74r6) f74b5)
theorem uf74b7 (P ts os Q) : awl P f74b7 Q ts os = awl P (.seq (.region f74r6) f74b5) Q ts os := id rfl
def f74b8 : AQ := (.seq f74b7 f74b2)
theorem uf74b8 (P ts os Q) : awl P f74b8 Q ts os = awl P (.seq f74b7 f74b2) Q ts os := id rfl
def f74r9 : List AI := [⟨none, (.faddr 29 1 (.t 1))⟩, ⟨none, (.load 30 1 false (.t 29))⟩, ⟨none, (.call (some 31) 34 [(.t 30)])⟩, ⟨none, (.mov 28 (.t 31))⟩, ⟨none, (.extr 32 (.t 28) 0)⟩, ⟨none, (.extr 33 (.t 28) 1)⟩, ⟨none, (.mov 4 (.t 32))⟩, ⟨none, (.mov 5 (.t 33))⟩]
theorem uf74r9 : type_of% @f74r9.eq_1 := id @f74r9.eq_1
def f74b10 : AQ := (.seq (.region f74r9) f74b8)
theorem uf74b10 (P ts os Q) : awl P f74b10 Q ts os = awl P (.seq (.region f74r9) f74b8) Q ts os := id rfl
def f74r11 : List AI := [⟨none, (.mov 2 (.v (.k (.c (.int .i64 1)))))⟩, ⟨none, (.mov 3 (.v (.k (.c (.int .i64 0)))))⟩]
theorem uf74r11 : type_of% @f74r11.eq_1 := id @f74r11.eq_1
def f74b12 : AQ := (.seq (.region f74r11) .ret)
theorem uf74b12 (P ts os Q) : awl P f74b12 Q ts os = awl P (.seq (.region f74r11) .ret) Q ts os := id rfl
def f74r13 : List AI := [⟨none, (.mov 2 (.v (.k (.c (.int .i64 0)))))⟩, ⟨none, (.mov 3 (.v (.k (.c (.int .i64 3)))))⟩]
theorem uf74r13 : type_of% @f74r13.eq_1 := id @f74r13.eq_1
def f74b14 : AQ := (.seq (.region f74r13) .ret)
theorem uf74b14 (P ts os Q) : awl P f74b14 Q ts os = awl P (.seq (.region f74r13) .ret) Q ts os := id rfl
def f74b15 : AQ := (.cond (.t 27) f74b14 .skip)
theorem uf74b15 (P ts os Q) : awl P f74b15 Q ts os = awl P (.cond (.t 27) f74b14 .skip) Q ts os := id rfl
def f74r16 : List AI := [⟨none, (.faddr 20 1 (.t 1))⟩, ⟨none, (.load 21 1 false (.t 20))⟩, ⟨none, (.bin 22 .neq (.t 21) (.v (.k (.c (.int .i64 0)))))⟩, ⟨none, (.mov 23 (.t 22))⟩, ⟨(some (23, true)), (.faddr 24 1 (.t 1))⟩, ⟨(some (23, true)), (.load 25 1 false (.t 24))⟩, ⟨(some (23, true)), (.bin 26 .neq (.t 25) (.v (.k (.c (.int .i64 1)))))⟩, ⟨none, (.pick 27 (.t 23) (.t 26) (.v (.k (.c (.bool false)))))⟩]
theorem uf74r16 : type_of% @f74r16.eq_1 := id @f74r16.eq_1
def f74b17 : AQ := (.seq (.region f74r16) f74b15)
theorem uf74b17 (P ts os Q) : awl P f74b17 Q ts os = awl P (.seq (.region f74r16) f74b15) Q ts os := id rfl
def f74b18 : AQ := (.seq f74b17 f74b12)
theorem uf74b18 (P ts os Q) : awl P f74b18 Q ts os = awl P (.seq f74b17 f74b12) Q ts os := id rfl
def f74b19 : AQ := (.cond (.t 19) f74b18 .skip)
theorem uf74b19 (P ts os Q) : awl P f74b19 Q ts os = awl P (.cond (.t 19) f74b18 .skip) Q ts os := id rfl
def f74r20 : List AI := [⟨none, (.faddr 17 0 (.t 1))⟩, ⟨none, (.load 18 1 false (.t 17))⟩, ⟨none, (.bin 19 .eql (.t 18) (.v (.k (.c (.int .i64 1)))))⟩]
theorem uf74r20 : type_of% @f74r20.eq_1 := id @f74r20.eq_1
def f74b21 : AQ := (.seq (.region f74r20) f74b19)
theorem uf74b21 (P ts os Q) : awl P f74b21 Q ts os = awl P (.seq (.region f74r20) f74b19) Q ts os := id rfl
def f74b22 : AQ := (.seq f74b21 f74b10)
theorem uf74b22 (P ts os Q) : awl P f74b22 Q ts os = awl P (.seq f74b21 f74b10) Q ts os := id rfl
def f74r23 : List AI := [⟨none, (.mov 2 (.v (.k (.c (.int .i64 0)))))⟩, ⟨none, (.mov 3 (.v (.k (.c (.int .i64 0)))))⟩]
theorem uf74r23 : type_of% @f74r23.eq_1 := id @f74r23.eq_1
def f74b24 : AQ := (.seq (.region f74r23) .ret)
theorem uf74b24 (P ts os Q) : awl P f74b24 Q ts os = awl P (.seq (.region f74r23) .ret) Q ts os := id rfl
def f74r25 : List AI := [⟨none, (.mov 2 (.v (.k (.c (.int .i64 0)))))⟩, ⟨none, (.mov 3 (.v (.k (.c (.int .i64 3)))))⟩]
theorem uf74r25 : type_of% @f74r25.eq_1 := id @f74r25.eq_1
def f74b26 : AQ := (.seq (.region f74r25) .ret)
theorem uf74b26 (P ts os Q) : awl P f74b26 Q ts os = awl P (.seq (.region f74r25) .ret) Q ts os := id rfl
def f74b27 : AQ := (.cond (.t 16) f74b26 .skip)
theorem uf74b27 (P ts os Q) : awl P f74b27 Q ts os = awl P (.cond (.t 16) f74b26 .skip) Q ts os := id rfl
def f74r28 : List AI := [⟨none, (.faddr 9 1 (.t 1))⟩, ⟨none, (.load 10 1 false (.t 9))⟩, ⟨none, (.bin 11 .lss (.t 10) (.v (.k (.c (.int .i64 (-1099511627776))))))⟩, ⟨none, (.mov 12 (.t 11))⟩, ⟨(some (12, false)), (.faddr 13 1 (.t 1))⟩, ⟨(some (12, false)), (.load 14 1 false (.t 13))⟩, ⟨(some (12, false)), (.bin 15 .gtr (.t 14) (.v (.k (.c (.int .i64 1099511627776)))))⟩, ⟨none, (.pick 16 (.t 12) (.v (.k (.c (.bool true)))) (.t 15))⟩]
theorem uf74r28 : type_of% @f74r28.eq_1 := id @f74r28.eq_1
def f74b29 : AQ := (.seq (.region f74r28) f74b27)
theorem uf74b29 (P ts os Q) : awl P f74b29 Q ts os = awl P (.seq (.region f74r28) f74b27) Q ts os := id rfl
def f74b30 : AQ := (.seq f74b29 f74b24)
theorem uf74b30 (P ts os Q) : awl P f74b30 Q ts os = awl P (.seq f74b29 f74b24) Q ts os := id rfl
def f74b31 : AQ := (.cond (.t 8) f74b30 .skip)
theorem uf74b31 (P ts os Q) : awl P f74b31 Q ts os = awl P (.cond (.t 8) f74b30 .skip) Q ts os := id rfl
def f74r32 : List AI := [⟨none, (.faddr 6 0 (.t 1))⟩, ⟨none, (.load 7 1 false (.t 6))⟩, ⟨none, (.bin 8 .eql (.t 7) (.v (.k (.c (.int .i64 0)))))⟩]
theorem uf74r32 : type_of% @f74r32.eq_1 := id @f74r32.eq_1
def f74b33 : AQ := (.seq (.region f74r32) f74b31)
theorem uf74b33 (P ts os Q) : awl P f74b33 Q ts os = awl P (.seq (.region f74r32) f74b31) Q ts os := id rfl
def f74b34 : AQ := (.seq f74b33 f74b22)
theorem uf74b34 (P ts os Q) : awl P f74b34 Q ts os = awl P (.seq f74b33 f74b22) Q ts os := id rfl
def f74r35 : List AI := [⟨none, (.box 1 41 (.t 0))⟩, ⟨none, (.mov 2 (.v (.k (.c (.int .i64 0)))))⟩, ⟨none, (.mov 3 (.v (.k (.c (.int .i64 0)))))⟩]
theorem uf74r35 : type_of% @f74r35.eq_1 := id @f74r35.eq_1
def f74b36 : AQ := (.seq (.region f74r35) f74b34)
theorem uf74b36 (P ts os Q) : awl P f74b36 Q ts os = awl P (.seq (.region f74r35) f74b34) Q ts os := id rfl
def f74 : AQ := f74b36
theorem uf74 (P ts os Q) : awl P f74 Q ts os = awl P f74b36 Q ts os := id rfl
theorem hf74 : cFunc Try.prog 74 = some ⟨37, f74.erase, [(RX.t 2), (RX.t 3)]⟩ := by kernel_rfl
theorem okf74 : f74.ok = true := by kernel_rfl
/-! ### function 75 -/
def f75r1 : List AI := [⟨none, (.mov 65 (.t 1))⟩, ⟨none, (.iaddr 66 1 (.t 65) (.v (.k (.c (.int .i64 0)))))⟩, ⟨none, (.load 67 1 false (.t 66))⟩, ⟨none, (.bin 68 .eql (.t 67) (.v (.k (.c (.int .i64 0)))))⟩, ⟨none, (.mov 69 (.t 68))⟩, ⟨(some (69, true)), (.mov 70 (.t 1))⟩, ⟨(some (69, true)), (.iaddr 71 1 (.t 70) (.v (.k (.c (.int .i64 1)))))⟩, ⟨(some (69, true)), (.load 72 1 false (.t 71))⟩, ⟨(some (69, true)), (.bin 73 .eql (.t 72) (.v (.k (.c (.int .i64 0)))))⟩, ⟨none, (.pick 74 (.t 69) (.t 73) (.v (.k (.c (.bool false)))))⟩, ⟨none, (.mov 4 (.v (.k (.c (.int .i64 0)))))⟩, ⟨none, (.mov 5 (.t 74))⟩]
theorem uf75r1 : type_of% @f75r1.eq_1 := id @f75r1.eq_1
def f75b2 : AQ := (.seq (.draw f75r1 [[], [0], [1], [2], [3], [4], [5, 4], [6, 4], [7, 4], [4, 8], [4], [9, 10, 0, 1, 2, 3, 4, 5, 6, 7, 8, 9, 10]]) .ret)
theorem uf75b2 (P ts os Q) : awl P f75b2 Q ts os = awl P (.seq (.draw f75r1 [[], [0], [1], [2], [3], [4], [5, 4], [6, 4], [7, 4], [4, 8], [4], [9, 10, 0, 1, 2, 3, 4, 5, 6, 7, 8, 9, 10]]) .ret) Q ts os := id rfl
def f75r3 : List AI := [⟨none, (.mov 9 (.t 1))⟩, ⟨none, (.iaddr 10 1 (.t 9) (.v (.k (.c (.int .i64 0)))))⟩, ⟨none, (.load 11 1 false (.t 10))⟩, ⟨none, (.bin 12 .eql (.t 11) (.v (.k (.c (.int .i64 1)))))⟩, ⟨none, (.mov 4 (.v (.k (.c (.int .i64 1)))))⟩, ⟨none, (.mov 5 (.t 12))⟩]
theorem uf75r3 : type_of% @f75r3.eq_1 := id @f75r3.eq_1
def f75b4 : AQ := (.seq (.draw f75r3 [[], [0], [1], [2], [], [3, 4, 0, 1, 2, 3, 4]]) .ret)
theorem uf75b4 (P ts os Q) : awl P f75b4 Q ts os = awl P (.seq (.draw f75r3 [[], [0], [1], [2], [], [3, 4, 0, 1, 2, 3, 4]]) .ret) Q ts os := id rfl
def f75r5 : List AI := [⟨none, (.mov 16 (.t 1))⟩, ⟨none, (.iaddr 17 1 (.t 16) (.v (.k (.c (.int .i64 0)))))⟩, ⟨none, (.load 18 1 false (.t 17))⟩, ⟨none, (.bin 19 .eql (.t 18) (.v (.k (.c (.int .i64 1)))))⟩, ⟨none, (.mov 20 (.t 19))⟩, ⟨(some (20, true)), (.mov 21 (.t 1))⟩, ⟨(some (20, true)), (.iaddr 22 1 (.t 21) (.v (.k (.c (.int .i64 1)))))⟩, ⟨(some (20, true)), (.load 23 1 false (.t 22))⟩, ⟨(some (20, true)), (.bin 24 .eql (.t 23) (.v (.k (.c (.int .i64 1)))))⟩, ⟨none, (.pick 25 (.t 20) (.t 24) (.v (.k (.c (.bool false)))))⟩, ⟨none, (.mov 4 (.v (.k (.c (.int .i64 1)))))⟩, ⟨none, (.mov 5 (.t 25))⟩]
theorem uf75r5 : type_of% @f75r5.eq_1 := id @f75r5.eq_1
def f75b6 : AQ := (.seq (.draw f75r5 [[], [0], [1], [2], [3], [4], [5, 4], [6, 4], [7, 4], [4, 8], [4], [9, 10, 0, 1, 2, 3, 4, 5, 6, 7, 8, 9, 10]]) .ret)
theorem uf75b6 (P ts os Q) : awl P f75b6 Q ts os = awl P (.seq (.draw f75r5 [[], [0], [1], [2], [3], [4], [5, 4], [6, 4], [7, 4], [4, 8], [4], [9, 10, 0, 1, 2, 3, 4, 5, 6, 7, 8, 9, 10]]) .ret) Q ts os := id rfl
def f75r7 : List AI := [⟨none, (.mov 28 (.t 1))⟩, ⟨none, (.iaddr 29 1 (.t 28) (.v (.k (.c (.int .i64 1)))))⟩, ⟨none, (.load 30 1 false (.t 29))⟩, ⟨none, (.mov 31 (.t 1))⟩, ⟨none, (.iaddr 32 1 (.t 31) (.v (.k (.c (.int .i64 0)))))⟩, ⟨none, (.load 33 1 false (.t 32))⟩, ⟨none, (.bin 34 .eql (.t 33) (.v (.k (.c (.int .i64 1)))))⟩, ⟨none, (.mov 35 (.t 34))⟩, ⟨(some (35, true)), (.mov 36 (.t 1))⟩, ⟨(some (35, true)), (.iaddr 37 1 (.t 36) (.v (.k (.c (.int .i64 1)))))⟩, ⟨(some (35, true)), (.load 38 1 false (.t 37))⟩, ⟨(some (35, true)), (.mov 39 (.t 1))⟩, ⟨(some (35, true)), (.iaddr 40 1 (.t 39) (.v (.k (.c (.int .i64 2)))))⟩, ⟨(some (35, true)), (.load 41 1 false (.t 40))⟩, ⟨(some (35, true)), (.bin 42 .eql (.t 38) (.t 41))⟩, ⟨none, (.pick 43 (.t 35) (.t 42) (.v (.k (.c (.bool false)))))⟩, ⟨none, (.mov 4 (.t 30))⟩, ⟨none, (.mov 5 (.t 43))⟩]
theorem uf75r7 : type_of% @f75r7.eq_1 := id @f75r7.eq_1
def f75b8 : AQ := (.seq (.draw f75r7 [[], [0], [1], [], [3], [4], [5], [6], [7], [8, 7], [9, 7], [7], [11, 7], [12, 7], [10, 13, 7], [7, 14], [2, 7, 0, 1, 2], [15, 16, 0, 1, 2, 3, 4, 5, 6, 7, 8, 9, 10, 11, 12, 13, 14, 15, 16]]) .ret)
theorem uf75b8 (P ts os Q) : awl P f75b8 Q ts os = awl P (.seq (.draw f75r7 [[], [0], [1], [], [3], [4], [5], [6], [7], [8, 7], [9, 7], [7], [11, 7], [12, 7], [10, 13, 7], [7, 14], [2, 7, 0, 1, 2], [15, 16, 0, 1, 2, 3, 4, 5, 6, 7, 8, 9, 10, 11, 12, 13, 14, 15, 16]]) .ret) Q ts os := id rfl
def f75r9 : List AI := [⟨none, (.mov 46 (.t 1))⟩, ⟨none, (.iaddr 47 1 (.t 46) (.v (.k (.c (.int .i64 0)))))⟩, ⟨none, (.load 48 1 false (.t 47))⟩, ⟨none, (.bin 49 .eql (.t 48) (.v (.k (.c (.int .i64 0)))))⟩, ⟨none, (.mov 50 (.t 49))⟩, ⟨(some (50, true)), (.mov 51 (.t 1))⟩, ⟨(some (50, true)), (.iaddr 52 1 (.t 51) (.v (.k (.c (.int .i64 1)))))⟩, ⟨(some (50, true)), (.load 53 1 false (.t 52))⟩, ⟨(some (50, true)), (.bin 54 .eql (.t 53) (.v (.k (.c (.int .i64 0)))))⟩, ⟨none, (.pick 55 (.t 50) (.t 54) (.v (.k (.c (.bool false)))))⟩, ⟨none, (.mov 4 (.v (.k (.c (.int .i64 1)))))⟩, ⟨none, (.mov 5 (.t 55))⟩]
theorem uf75r9 : type_of% @f75r9.eq_1 := id @f75r9.eq_1
def f75b10 : AQ := (.seq (.draw f75r9 [[], [0], [1], [2], [3], [4], [5, 4], [6, 4], [7, 4], [4, 8], [4], [9, 10, 0, 1, 2, 3, 4, 5, 6, 7, 8, 9, 10]]) .ret)
theorem uf75b10 (P ts os Q) : awl P f75b10 Q ts os = awl P (.seq (.draw f75r9 [[], [0], [1], [2], [3], [4], [5, 4], [6, 4], [7, 4], [4, 8], [4], [9, 10, 0, 1, 2, 3, 4, 5, 6, 7, 8, 9, 10]]) .ret) Q ts os := id rfl
def f75r11 : List AI := [⟨none, (.mov 58 (.t 1))⟩, ⟨none, (.iaddr 59 1 (.t 58) (.v (.k (.c (.int .i64 0)))))⟩, ⟨none, (.load 60 1 false (.t 59))⟩, ⟨none, (.mov 61 (.t 1))⟩, ⟨none, (.iaddr 62 1 (.t 61) (.v (.k (.c (.int .i64 1)))))⟩, ⟨none, (.load 63 1 false (.t 62))⟩, ⟨none, (.bin 64 .eql (.t 60) (.t 63))⟩, ⟨none, (.mov 4 (.v (.k (.c (.int .i64 1)))))⟩, ⟨none, (.mov 5 (.t 64))⟩]
theorem uf75r11 : type_of% @f75r11.eq_1 := id @f75r11.eq_1
def f75b12 : AQ := (.seq (.draw f75r11 [[], [0], [1], [], [3], [4], [2, 5], [], [6, 7, 0, 1, 2, 3, 4, 5, 6, 7]]) .ret)
theorem uf75b12 (P ts os Q) : awl P f75b12 Q ts os = awl P (.seq (.draw f75r11 [[], [0], [1], [], [3], [4], [2, 5], [], [6, 7, 0, 1, 2, 3, 4, 5, 6, 7]]) .ret) Q ts os := id rfl
def f75b13 : AQ := (.cond (.t 56) f75b12 .skip)
theorem uf75b13 (P ts os Q) : awl P f75b13 Q ts os = awl P (.cond (.t 56) f75b12 .skip) Q ts os := id rfl
def f75r14 : List AI := [⟨none, (.bin 57 .eql (.t 6) (.v (.k (.c (.int .i64 8)))))⟩, ⟨none, (.mov 56 (.t 57))⟩]
theorem uf75r14 : type_of% @f75r14.eq_1 := id @f75r14.eq_1
def f75b15 : AQ := (.seq (.region f75r14) f75b13)
theorem uf75b15 (P ts os Q) : awl P f75b15 Q ts os = awl P (.seq (.region f75r14) f75b13) Q ts os := id rfl
def f75b16 : AQ := (.cond (.t 44) f75b10 f75b15)
theorem uf75b16 (P ts os Q) : awl P f75b16 Q ts os = awl P (.cond (.t 44) f75b10 f75b15) Q ts os := id rfl
def f75r17 : List AI := [⟨none, (.bin 45 .eql (.t 6) (.v (.k (.c (.int .i64 7)))))⟩, ⟨none, (.mov 44 (.t 45))⟩]
theorem uf75r17 : type_of% @f75r17.eq_1 := id @f75r17.eq_1
def f75b18 : AQ := (.seq (.region f75r17) f75b16)
theorem uf75b18 (P ts os Q) : awl P f75b18 Q ts os = awl P (.seq (.region f75r17) f75b16) Q ts os := id rfl
def f75b19 : AQ := (.cond (.t 26) f75b8 f75b18)
theorem uf75b19 (P ts os Q) : awl P f75b19 Q ts os = awl P (.cond (.t 26) f75b8 f75b18) Q ts os := id rfl
def f75r20 : List AI := [⟨none, (.bin 27 .eql (.t 6) (.v (.k (.c (.int .i64 6)))))⟩, ⟨none, (.mov 26 (.t 27))⟩]
theorem uf75r20 : type_of% @f75r20.eq_1 := id @f75r20.eq_1
def f75b21 : AQ := (.seq (.region f75r20) f75b19)
theorem uf75b21 (P ts os Q) : awl P f75b21 Q ts os = awl P (.seq (.region f75r20) f75b19) Q ts os := id rfl
def f75b22 : AQ := (.cond (.t 13) f75b6 f75b21)
theorem uf75b22 (P ts os Q) : awl P f75b22 Q ts os = awl P (.cond (.t 13) f75b6 f75b21) Q ts os := id rfl
def f75r23 : List AI := [⟨none, (.bin 15 .eql (.t 6) (.v (.k (.c (.int .i64 5)))))⟩, ⟨none, (.mov 13 (.t 15))⟩]
theorem uf75r23 : type_of% @f75r23.eq_1 := id @f75r23.eq_1
def f75b24 : AQ := (.cond (.t 13) .skip (.region f75r23))
theorem uf75b24 (P ts os Q) : awl P f75b24 Q ts os = awl P (.cond (.t 13) .skip (.region f75r23)) Q ts os := id rfl
def f75r25 : List AI := [⟨none, (.bin 14 .eql (.t 6) (.v (.k (.c (.int .i64 4)))))⟩, ⟨none, (.mov 13 (.t 14))⟩]
theorem uf75r25 : type_of% @f75r25.eq_1 := id @f75r25.eq_1
def f75b26 : AQ := (.seq (.region f75r25) f75b24)
theorem uf75b26 (P ts os Q) : awl P f75b26 Q ts os = awl P (.seq (.region f75r25) f75b24) Q ts os := id rfl
def f75b27 : AQ := (.seq f75b26 f75b22)
theorem uf75b27 (P ts os Q) : awl P f75b27 Q ts os = awl P (.seq f75b26 f75b22) Q ts os := id rfl
def f75b28 : AQ := (.cond (.t 7) f75b4 f75b27)
theorem uf75b28 (P ts os Q) : awl P f75b28 Q ts os = awl P (.cond (.t 7) f75b4 f75b27) Q ts os := id rfl
def f75r29 : List AI := [⟨none, (.bin 8 .eql (.t 6) (.v (.k (.c (.int .i64 3)))))⟩, ⟨none, (.mov 7 (.t 8))⟩]
theorem uf75r29 : type_of% @f75r29.eq_1 := id @f75r29.eq_1
def f75b30 : AQ := (.seq (.region f75r29) f75b28)
theorem uf75b30 (P ts os Q) : awl P f75b30 Q ts os = awl P (.seq (.region f75r29) f75b28) Q ts os := id rfl
def f75b31 : AQ := (.block 0 f75b30)
theorem uf75b31 (P ts os Q) : awl P f75b31 Q ts os = awl P (.block 0 f75b30) Q ts os := id rfl
def f75r32 : List AI := [⟨none, (.mov 6 (.t 0))⟩]
theorem uf75r32 : type_of% @f75r32.eq_1 := id @f75r32.eq_1
def f75b33 : AQ := (.seq (.region f75r32) f75b31)
theorem uf75b33 (P ts os Q) : awl P f75b33 Q ts os = awl P (.seq (.region f75r32) f75b31) Q ts os := id rfl
def f75b34 : AQ := (.seq f75b33 f75b2)
theorem uf75b34 (P ts os Q) : awl P f75b34 Q ts os = awl P (.seq f75b33 f75b2) Q ts os := id rfl
def f75r35 : List AI := [⟨none, (.mov 4 (.v (.k (.c (.int .i64 0)))))⟩, ⟨none, (.mov 5 (.v (.k (.c (.bool false)))))⟩]
theorem uf75r35 : type_of% @f75r35.eq_1 := id @f75r35.eq_1
def f75b36 : AQ := (.seq (.region f75r35) f75b34)
theorem uf75b36 (P ts os Q) : awl P f75b36 Q ts os = awl P (.seq (.region f75r35) f75b34) Q ts os := id rfl
def f75 : AQ := f75b36
theorem uf75 (P ts os Q) : awl P f75 Q ts os = awl P f75b36 Q ts os := id rfl
theorem hf75 : cFunc Try.prog 75 = some ⟨75, f75.erase, [(RX.t 4), (RX.t 5)]⟩ := by kernel_rfl
theorem okf75 : f75.ok = true := by kernel_rfl
/-! ### function 93 -/
def f93r1 : List AI := [⟨none, (.mov 3 (.t 0))⟩, ⟨none, (.minmax 4 true (.t 3) [(.v (.k (.c (.int .i64 (-1099511627776)))))])⟩, ⟨none, (.minmax 5 false (.t 4) [(.v (.k (.c (.int .i64 1099511627776))))])⟩, ⟨none, (.mov 2 (.t 5))⟩]
theorem uf93r1 : type_of% @f93r1.eq_1 := id @f93r1.eq_1
def f93b2 : AQ := (.seq (.region f93r1) .ret)
theorem uf93b2 (P ts os Q) : awl P f93b2 Q ts os = awl P (.seq (.region f93r1) .ret) Q ts os := id rfl
def f93r3 : List AI := [⟨none, (.mov 2 (.v (.k (.c (.int .i64 0)))))⟩]
theorem uf93r3 : type_of% @f93r3.eq_1 := id @f93r3.eq_1
def f93b4 : AQ := (.seq (.region f93r3) f93b2)
theorem uf93b4 (P ts os Q) : awl P f93b4 Q ts os = awl P (.seq (.region f93r3) f93b2) Q ts os := id rfl
def f93 : AQ := f93b4
theorem uf93 (P ts os Q) : awl P f93 Q ts os = awl P f93b4 Q ts os := id rfl
theorem hf93 : cFunc Try.prog 93 = some ⟨6, f93.erase, [(RX.t 2)]⟩ := by kernel_rfl
theorem okf93 : f93.ok = true := by kernel_rfl
end Go.Abs

/- The program's data as Lean types, and how a slot holds them. -/
namespace Go.Abs

theorem wrap_in {n : Int} (h1 : -9223372036854775808 ≤ n) (h2 : n ≤ 9223372036854775807) : IntKind.i64.wrap n = n := IntWalk.i64_in n ⟨h1, h2⟩

/-- a list that came in -/
def lstC (sz : Nat) (rows : List (List C)) : C := .list (if rows.isEmpty then 0 else sz) none rows
abbrev lst (sz : Nat) (rows : List (List C)) : V := .k (.c (lstC sz rows))
def ints (l : List Int) : List (List C) := l.map fun n => [.int .i64 n]

theorem map_isEmpty {α β : Type} (f : α → β) (l : List α) : (l.map f).isEmpty = l.isEmpty := by cases l <;> rfl
theorem sz_of {α : Type} {l : List α} {i sz : Nat} (h : i < l.length) : (if l.isEmpty = true then 0 else sz) = sz := by cases l <;> simp at h ⊢
theorem map_at {α : Type} {f : α → List C} {l : List α} {i : Nat} (h : i < l.length) : (l.map f).getD i [] = f l[i] := by simp [h]
theorem map_len {α : Type} (f : α → List C) (l : List α) : (l.map f).length = l.length := by simp

theorem normRows_eq {α : Type} {f : α → List C} (hf : ∀ x, C.normRow (f x) = f x) (l : List α) : C.normRows (l.map f) = l.map f := by
  induction l with
  | nil => rfl
  | cons a l ih => simp [C.normRows, hf, ih]
theorem lstC_norm {α : Type} {f : α → List C} (hf : ∀ x, C.normRow (f x) = f x) (sz : Nat) (l : List α) : (lstC sz (l.map f)).norm = lstC sz (l.map f) := by
  unfold lstC
  simp only [C.norm, normRows_eq hf]
  cases l <;> simp

/-! ### Terms -/
inductive Term where
  | mk (op n : Int) (args : List Term)
  deriving Inhabited
def Term.op : Term → Int | .mk o _ _ => o
def Term.n : Term → Int | .mk _ n _ => n
def Term.args : Term → List Term | .mk _ _ a => a

mutual
def encT : Term → List C
  | .mk o n a => [.int .i64 o, .int .i64 n, lstC 3 (encTs a)]
def encTs : List Term → List (List C)
  | [] => []
  | t :: l => encT t :: encTs l
end
theorem encTs_map : ∀ (l : List Term), encTs l = l.map encT
  | [] => rfl
  | t :: l => by simp [encTs, encTs_map l]
theorem encT_eq (t : Term) : encT t = [.int .i64 t.op, .int .i64 t.n, lstC 3 (t.args.map encT)] := by
  cases t with
  | mk o n a => simp [encT, Term.op, Term.n, Term.args, encTs_map]
mutual
theorem encT_norm : ∀ (t : Term), C.normRow (encT t) = encT t
  | .mk o n a => by
    simp only [encT, C.normRow, C.norm, lstC, encTs_norm a]
    cases a <;> simp [encTs]
theorem encTs_norm : ∀ (l : List Term), C.normRows (encTs l) = encTs l
  | [] => rfl
  | t :: l => by simp only [encTs, C.normRows, encT_norm t, encTs_norm l]
end
theorem encT_len (t : Term) : (encT t).length = 3 := by rw [encT_eq]; rfl

/-! ### Orders -/
structure Choice where
  ask : Int
  by_ : Int
  whole : Bool
  deriving Inhabited
structure Rule where
  ask : Int
  term : Term
  deriving Inhabited
structure Order where
  name : List UInt8
  accepts : Bool
  choices : List Choice
  rules : List Rule
  deriving Inhabited
def encChoice (c : Choice) : List C := [.int .i64 c.ask, .int .i64 c.by_, .bool c.whole]
def encRule (r : Rule) : List C := .int .i64 r.ask :: encT r.term
def encOrder (o : Order) : List C := [.str o.name, .bool o.accepts, lstC 3 (o.choices.map encChoice), lstC 4 (o.rules.map encRule)]
theorem encChoice_norm (c : Choice) : C.normRow (encChoice c) = encChoice c := rfl
theorem encRule_norm (r : Rule) : C.normRow (encRule r) = encRule r := by simp [encRule, C.normRow, C.norm, encT_norm]
theorem encOrder_norm (o : Order) : C.normRow (encOrder o) = encOrder o := by
  simp only [encOrder, C.normRow, C.norm, lstC_norm encChoice_norm, lstC_norm encRule_norm]

/-! ### Cells -/
structure Cell where
  known : Bool
  n : Int
  deriving Inhabited
def encCell (c : Cell) : List C := [.bool c.known, .int .i64 c.n]
theorem encCell_norm (c : Cell) : C.normRow (encCell c) = encCell c := rfl

/-! ### Rules for lists -/
def encI (n : Int) : List C := [.int .i64 n]
@[simp] theorem normRow_int (k : IntKind) (n : Int) : C.normRow [.int k n] = [.int k n] := rfl
@[simp] theorem normRow_encI (n : Int) : C.normRow (encI n) = encI n := rfl
attribute [simp] encT_norm encChoice_norm encRule_norm encOrder_norm encCell_norm C.normRow
@[simp] theorem norm_int (k : IntKind) (n : Int) : (C.int k n).norm = .int k n := rfl
@[simp] theorem norm_bool (b : Bool) : (C.bool b).norm = .bool b := rfl
@[simp] theorem norm_str (s : List UInt8) : (C.str s).norm = .str s := rfl
@[simp] theorem norm_ro (row : List C) (off : Nat) : (C.ro row off).norm = .ro (C.normRow row) off := rfl
@[simp] theorem norm_fn (f : FuncId) (caps : List C) : (C.fn f caps).norm = .fn f (C.normRow caps) := rfl
@[simp] theorem normRows_T (l : List Term) : C.normRows (l.map encT) = l.map encT := normRows_eq encT_norm l
@[simp] theorem normRows_Ch (l : List Choice) : C.normRows (l.map encChoice) = l.map encChoice := normRows_eq encChoice_norm l
@[simp] theorem normRows_R (l : List Rule) : C.normRows (l.map encRule) = l.map encRule := normRows_eq encRule_norm l
@[simp] theorem normRows_O (l : List Order) : C.normRows (l.map encOrder) = l.map encOrder := normRows_eq encOrder_norm l
@[simp] theorem normRows_Ce (l : List Cell) : C.normRows (l.map encCell) = l.map encCell := normRows_eq encCell_norm l
@[simp] theorem normRows_ints (l : List Int) : C.normRows (ints l) = ints l := normRows_eq (fun _ => rfl) l
@[simp] theorem normRows_nil : C.normRows [] = [] := rfl
@[simp] theorem normRows_cons (r : List C) (l : List (List C)) : C.normRows (r :: l) = C.normRow r :: C.normRows l := rfl
@[simp] theorem ints_len (l : List Int) : (ints l).length = l.length := by simp [ints]
theorem ints_at {l : List Int} {i : Nat} (h : i < l.length) : (ints l).getD i [] = [.int .i64 l[i]] := by simp [ints, h]
@[simp] theorem ints_isEmpty (l : List Int) : (ints l).isEmpty = l.isEmpty := by cases l <;> rfl
theorem ints_snoc (l : List Int) (n : Int) : ints l ++ [[.int .i64 n]] = ints (l ++ [n]) := by simp [ints]
theorem ints_append (l m : List Int) : ints l ++ ints m = ints (l ++ m) := by simp [ints]
theorem ints_nil : ints [] = [] := rfl
theorem ints_1 (n : Int) : [[C.int .i64 n]] = ints [n] := rfl

theorem r_vLen_lst (o : Nat → Option O) (sz : Nat) (rows : List (List C)) : vLen o (.k (.c (lstC sz rows))) = some (True, .int .i64 rows.length) := rfl
theorem r_vIaddr_lst (o : Nat → Option O) (sz : Nat) (rows : List (List C)) (k : IntKind) (n : Int) : vIaddr o sz (.k (.c (lstC sz rows))) (.k (.c (.int k n))) = some (0 ≤ n ∧ n < rows.length, .k (.pel sz rows n.toNat 0)) := by
  simp only [lstC, vIaddr, Option.some.injEq, Prod.mk.injEq]
  cases rows with
  | nil => simp; omega
  | cons a l =>
    refine ⟨?_, ?_⟩
    · simp
    · simp
def cutS2 (sz : Nat) (rows : List (List C)) : Option Int → Option Int → Option (Prop × V)
  | some l, some h => some (0 ≤ l ∧ l ≤ h ∧ h ≤ rows.length, .list sz none ((rows.take h.toNat).drop l.toNat))
  | _, _ => none
theorem r_vSlice_lst (sz : Nat) (lo hi : Option V) (rows : List (List C)) : vSlice sz lo hi (.k (.c (lstC sz rows))) = cutS2 sz rows (vBound 0 lo) (vBound rows.length hi) := by
  simp only [lstC, vSlice]
  generalize vBound 0 lo = a
  generalize vBound (↑rows.length) hi = b
  cases a <;> cases b <;> simp only [cutL, cutS2]
  simp only [Option.some.injEq, Prod.mk.injEq, and_true]
  cases rows <;> simp
theorem r_cutS2 (sz : Nat) (rows : List (List C)) (l h : Int) : cutS2 sz rows (some l) (some h) = some (0 ≤ l ∧ l ≤ h ∧ h ≤ rows.length, .list sz none ((rows.take h.toNat).drop l.toNat)) := id rfl
theorem r_srcV_lst (os : OS) (sz : Nat) (rows : List (List C)) : srcV os sz (.k (.c (lstC sz rows))) = some (True, rows) := by
  simp only [lstC, srcV]
  cases rows <;> simp
@[simp] theorem norm_lst (sz : Nat) (rows : List (List C)) : (lstC sz rows).norm = lstC sz (C.normRows rows) := by
  unfold lstC
  simp only [C.norm]
  cases rows <;> simp [C.normRows]
@[simp] theorem norm_list (sz : Nat) (nl : Option Bool) (rows : List (List C)) : (C.list sz nl rows).norm = lstC sz (C.normRows rows) := by
  unfold lstC
  simp only [C.norm]
  cases rows <;> simp [C.normRows]
theorem lstC_nil (sz : Nat) : C.list 0 none [] = lstC sz [] := rfl
theorem map_getD {α : Type} {f : α → List C} {l : List α} {i : Nat} (h : i < l.length) : (l.map f).getD i [] = f l[i] := by simp [h]
theorem nrmO_arr (e : TypeId) (sz : Nat) (nl : Option Bool) (rows : List (List C)) : (O.arr e sz nl rows).nrm = .arr e sz none (C.normRows rows) := id rfl

theorem r_ofRow_map (r : List C) : ofRow true (r.map Abs.K.c) = .agg r := by
  simp only [ofRow, pureRow_map, if_true]
theorem r_ofRow_take {r : List C} {n : Nat} (h : r.length = n) : ofRow true (List.take n (r.map Abs.K.c)) = .agg r := by
  rw [List.take_of_length_le (by simp; omega)]; exact r_ofRow_map r
theorem r_all_noRef (d : Nat) (r : List C) : (r.map Abs.K.c).all (Abs.K.noRef d) = true := by induction r <;> simp_all [Abs.K.noRef]
theorem r_map_scrub (τ : Nat) (r : List C) : (r.map Abs.K.c).map (Abs.K.scrub τ) = r.map Abs.K.c := by simp [Abs.K.scrub]
theorem r_map_nrm (r : List C) : (r.map Abs.K.c).map Abs.K.nrm = (C.normRow r).map Abs.K.c := by
  induction r with
  | nil => rfl
  | cons a r ih => simp only [List.map_cons, ih]; rfl
theorem r_map_frz (τ : Nat) (ob : O) (r : List C) : (r.map Abs.K.c).map (Abs.K.frz τ ob) = r.map Abs.K.c := by simp [Abs.K.frz]
theorem encRule_len (r : Rule) : (encRule r).length = 4 := by simp [encRule, encT_len]
theorem encOrder_len (r : Order) : (encOrder r).length = 4 := by simp [encOrder]
theorem encChoice_len (r : Choice) : (encChoice r).length = 3 := by simp [encChoice]
theorem encCell_len (r : Cell) : (encCell r).length = 2 := by simp [encCell]

/-! fields -/
theorem f_rule0 (r : Rule) : ofRow false (List.take 1 (List.map Abs.K.c (encRule r))) = .k (.c (.int .i64 r.ask)) := rfl
theorem f_rule1 (r : Rule) : ofRow true (List.take 3 (List.drop 1 (List.map Abs.K.c (encRule r)))) = .agg (encT r.term) := by
  have : List.drop 1 (List.map Abs.K.c (encRule r)) = List.map Abs.K.c (encT r.term) := rfl
  rw [this]; exact r_ofRow_take (encT_len _)
theorem g_rule0 (r : Rule) : (encRule r).getD 0 default = .int .i64 r.ask := rfl
theorem g_rule1 (r : Rule) : List.take 3 (List.drop 1 (encRule r)) = encT r.term := by
  have : List.drop 1 (encRule r) = encT r.term := rfl
  rw [this, List.take_of_length_le (by rw [encT_len]; omega)]
theorem f_ch0 (c : Choice) : ofRow false (List.take 1 (List.map Abs.K.c (encChoice c))) = .k (.c (.int .i64 c.ask)) := rfl
theorem f_ch1 (c : Choice) : ofRow false (List.take 1 (List.drop 1 (List.map Abs.K.c (encChoice c)))) = .k (.c (.int .i64 c.by_)) := rfl
theorem f_ch2 (c : Choice) : ofRow false (List.take 1 (List.drop 2 (List.map Abs.K.c (encChoice c)))) = .k (.c (.bool c.whole)) := rfl
theorem g_ch0 (c : Choice) : (encChoice c).getD 0 default = .int .i64 c.ask := rfl
theorem g_ch1 (c : Choice) : (encChoice c).getD 1 default = .int .i64 c.by_ := rfl
theorem g_ch2 (c : Choice) : (encChoice c).getD 2 default = .bool c.whole := rfl
theorem f_or2 (o : Order) : ofRow false (List.take 1 (List.drop 2 (List.map Abs.K.c (encOrder o)))) = .k (.c (lstC 3 (o.choices.map encChoice))) := rfl
theorem f_or3 (o : Order) : ofRow false (List.take 1 (List.drop 3 (List.map Abs.K.c (encOrder o)))) = .k (.c (lstC 4 (o.rules.map encRule))) := rfl
theorem len_rules {o : Order} {l : List V} (hm : V.agg (encOrder o) ∈ l) (h : ∀ v, v ∈ l → ∀ c, c ∈ v.topC → ∀ sz nl rows, c = .list sz nl rows → rows.length ≤ 9223372036854775807) :
    o.choices.length ≤ 9223372036854775807 ∧ o.rules.length ≤ 9223372036854775807 := by
  refine ⟨?_, ?_⟩
  · have := h _ hm (lstC 3 (o.choices.map encChoice)) (by simp [V.topC, encOrder]) _ _ _ rfl
    simpa using this
  · have := h _ hm (lstC 4 (o.rules.map encRule)) (by simp [V.topC, encOrder]) _ _ _ rfl
    simpa using this
theorem len_lst {sz : Nat} {rows : List (List C)} {l : List V} (hm : lst sz rows ∈ l) (h : ∀ v, v ∈ l → ∀ c, c ∈ v.topC → ∀ sz nl rows, c = .list sz nl rows → rows.length ≤ 9223372036854775807) : rows.length ≤ 9223372036854775807 :=
  h _ hm (lstC sz rows) (by simp [V.topC]) _ _ _ rfl

/-! ### Calls -/
section
variable {P : Program} {f : FuncId} {vs : List V} {K : KK} {d : Nat} {ts : TS} {os : OS}
/-- a call of which the contract is known; its result is scalar -/
theorem call_s {args : List V} {r : V} {X : Prop} (hs : Spec P f args (fun r' => r' = r)) (hk : K (insT d r ts) os)
    (hp : vs.all (fun v => (lendL os v).isPure) = true := by simp [lendL, lendO, lookO, V.isPure])
    (ha : vs.map (fun v => (lendL os v).norm) = args := by simp [lendL, lendO, lookO, V.norm, encT_eq, encRule, encOrder, encChoice, encCell, norm_list, lst]) (hr : r.scalar = true := by rfl) : callK P f vs [] K (some d) ts os ∨ X := by
  refine .inl ⟨hp, r, ?_, ?_⟩
  · simpa [ha] using hs
  · rw [if_pos hr]; exact hk
/-- a call of a closure -/
theorem call_c {cs : List C} {args : List V} {r : V} {X : Prop} (hs : Spec P f args (fun r' => r' = r)) (hk : K (insT d r ts) os)
    (hp : vs.all (fun v => (lendL os v).isPure) = true := by simp [lendL, lendO, lookO, V.isPure])
    (ha : (vs.map (fun v => (lendL os v).norm) ++ cs.map fun c => .k (.c c.norm)) = args := by simp [lendL, lendO, lookO, V.norm, encT_eq, encRule, encOrder, encChoice, encCell, norm_list, lst]) (hr : r.scalar = true := by rfl) : callK P f vs cs K (some d) ts os ∨ X := by
  refine .inl ⟨hp, r, by rw [ha]; exact hs, ?_⟩
  rw [if_pos hr]; exact hk
/-- its result is no scalar -/
theorem call_r {args : List V} {r : V} {X : Prop} (hs : Spec P f args (fun r' => r' = r)) (hk : retK r K ts os (some d))
    (hp : vs.all (fun v => (lendL os v).isPure) = true := by simp [lendL, lendO, lookO, V.isPure])
    (ha : vs.map (fun v => (lendL os v).norm) = args := by simp [lendL, lendO, lookO, V.norm, encT_eq, encRule, encOrder, encChoice, encCell, norm_list, lst])
    (ht : vs.all (fun v => v.toks.isEmpty) = true := by simp [V.toks, K.toks]) (hr : r.scalar = false := by rfl) : callK P f vs [] K (some d) ts os ∨ X := by
  refine .inl ⟨hp, r, by simpa [ha] using hs, ?_⟩
  rw [if_neg (by simp [hr])]
  exact ⟨ht, hk⟩
/-- its result is a fresh list -/
theorem call_l {args : List V} {e sz : Nat} {nl : Option Bool} {rows : List (List C)} {X : Prop} (hs : Spec P f args (fun r' => r' = .k (.newl e sz nl rows))) (hk : K (insT d (.k (.own d)) ts) (insO d (.arr e sz nl rows) os))
    (hp : vs.all (fun v => (lendL os v).isPure) = true := by simp [lendL, lendO, lookO, V.isPure])
    (ha : vs.map (fun v => (lendL os v).norm) = args := by simp [lendL, lendO, lookO, V.norm, encT_eq, encRule, encOrder, encChoice, encCell, norm_list, lst])
    (ht : vs.all (fun v => v.toks.isEmpty) = true := by simp [V.toks, K.toks]) (hf : freeB d ts os := by first | rfl | simp [freeB, freeT, freeO, V.noRef, V.noRefL, O.noRef, Abs.K.noRef, r_all_noRef]) : callK P f vs [] K (some d) ts os ∨ X := by
  refine .inl ⟨hp, _, by simpa [ha] using hs, ?_⟩
  rw [if_neg (by simp [V.scalar])]
  refine ⟨ht, ?_⟩
  show regK _ _ _ _ _ _
  refine ⟨⟨⟨hf, .inl rfl⟩, trivial⟩, hk⟩
theorem callQ_s {args : List V} {r : V} (hs : Spec P f args (fun r' => r' = r)) (hk : K (insT d r.fz ts) os)
    (hp : vs.all (fun v => (lendL os v).isPure) = true := by simp [lendL, lendO, lookO, V.isPure])
    (ha : vs.map (fun v => (lendL os v).norm) = args := by simp [lendL, lendO, lookO, V.norm, encT_eq, encRule, encOrder, encChoice, encCell, norm_list, lst]) (hr : r.scalar = true := by rfl) : callQK P f vs [] K d ts os :=
  ⟨hp, r, by simpa [ha] using hs, .inl hr, hk⟩
/-- in a region that draws: any result -/
theorem callQ_l {args : List V} {r : V} (hs : Spec P f args (fun r' => r' = r)) (hk : K (insT d r.fz ts) os)
    (hp : vs.all (fun v => (lendL os v).isPure) = true := by simp [lendL, lendO, lookO, V.isPure])
    (ha : vs.map (fun v => (lendL os v).norm) = args := by simp [lendL, lendO, lookO, V.norm, encT_eq, encRule, encOrder, encChoice, encCell, norm_list, lst]) (hr : vs.all (fun v => v.toks.isEmpty) = true := by simp [V.toks, K.toks]) : callQK P f vs [] K d ts os :=
  ⟨hp, r, by simpa [ha] using hs, .inr hr, hk⟩
theorem call_scalar {args : List V} {r : V} {X : Prop} (hs : Spec P f args (fun r' => r' = r)) (hp : vs.all (fun v => (lendL os v).isPure) = true) (ha : vs.map (fun v => (lendL os v).norm) = args) (hr : r.scalar = true)
    (hk : K (insT d r ts) os) : callK P f vs [] K (some d) ts os ∨ X := by
  refine .inl ⟨hp, r, ?_, ?_⟩
  · simpa [ha] using hs
  · rw [if_pos hr]; exact hk
theorem callQ_scalar {args : List V} {r : V} (hs : Spec P f args (fun r' => r' = r)) (hp : vs.all (fun v => (lendL os v).isPure) = true) (ha : vs.map (fun v => (lendL os v).norm) = args) (hr : r.scalar = true)
    (hk : K (insT d r.fz ts) os) : callQK P f vs [] K d ts os :=
  ⟨hp, r, by simpa [ha] using hs, .inl hr, hk⟩
end

end Go.Abs
