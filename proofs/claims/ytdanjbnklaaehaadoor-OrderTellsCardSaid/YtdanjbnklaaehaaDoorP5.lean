/- A part of the proof; the last text states what is proved. -/
import Derived.Test.YtdanjbnklaaehaaDoorP4
import Derived.IntWalk
import Derived.Test.YtdanjbnklaaehaaDoorProg
import Derived.Shelf.Slices.Turned
set_option linter.unusedVariables false
set_option linter.unusedSimpArgs false
set_option maxRecDepth 100000
namespace Go.Abs
open Go.Proofs
def f54r1 : List AI := [⟨none, (.mov 35 (.t 6))⟩, ⟨none, (.mov 2 (.t 35))⟩]
theorem uf54r1 : type_of% @f54r1.eq_1 := id @f54r1.eq_1
def f54b2 : AQ := (.seq (.region f54r1) .ret)
theorem uf54b2 (P ts os Q) : awl P f54b2 Q ts os = awl P (.seq (.region f54r1) .ret) Q ts os := id rfl
def f54r3 : List AI := [⟨none, (.bin 34 .add (.t 27) (.v (.k (.c (.int .i64 1)))))⟩, ⟨none, (.mov 27 (.t 34))⟩]
theorem uf54r3 : type_of% @f54r3.eq_1 := id @f54r3.eq_1
def f54r4 : List AI := [⟨none, (.mov 31 (.t 6))⟩, ⟨none, (.mov 32 (.t 8))⟩, ⟨none, (.append 33 3 1 8 (.t 31) (.t 32))⟩, ⟨none, (.mov 6 (.t 33))⟩]
theorem uf54r4 : type_of% @f54r4.eq_1 := id @f54r4.eq_1
def f54r5 : List AI := [⟨none, (.iaddr 29 1 (.t 25) (.t 27))⟩, ⟨none, (.load 30 1 false (.t 29))⟩, ⟨none, (.mov 8 (.t 30))⟩]
theorem uf54r5 : type_of% @f54r5.eq_1 := id @f54r5.eq_1
def f54b6 : AQ := (.seq (.region f54r5) (.region f54r4))
theorem uf54b6 (P ts os Q) : awl P f54b6 Q ts os = awl P (.seq (.region f54r5) (.region f54r4)) Q ts os := id rfl
def f54b7 : AQ := (.block 3 f54b6)
theorem uf54b7 (P ts os Q) : awl P f54b7 Q ts os = awl P (.block 3 f54b6) Q ts os := id rfl
def f54b8 : AQ := (.seq f54b7 (.region f54r3))
theorem uf54b8 (P ts os Q) : awl P f54b8 Q ts os = awl P (.seq f54b7 (.region f54r3)) Q ts os := id rfl
def f54b9 : AQ := (.cond (.t 28) .skip (.exit 2))
theorem uf54b9 (P ts os Q) : awl P f54b9 Q ts os = awl P (.cond (.t 28) .skip (.exit 2)) Q ts os := id rfl
def f54b10 : AQ := (.seq f54b9 f54b8)
theorem uf54b10 (P ts os Q) : awl P f54b10 Q ts os = awl P (.seq f54b9 f54b8) Q ts os := id rfl
def f54r11 : List AI := [⟨none, (.bin 28 .lss (.t 27) (.t 26))⟩]
theorem uf54r11 : type_of% @f54r11.eq_1 := id @f54r11.eq_1
def f54b12 : AQ := (.seq (.region f54r11) f54b10)
theorem uf54b12 (P ts os Q) : awl P f54b12 Q ts os = awl P (.seq (.region f54r11) f54b10) Q ts os := id rfl
def f54l13 : AQ := .loop [6, 25, 26, 27] [24, 33, 25000, 25001, 25002] f54b12
theorem uf54l13 (P ts os Q) : awl P f54l13 Q ts os = awl P (.loop [6, 25, 26, 27] [24, 33, 25000, 25001, 25002] f54b12) Q ts os := id rfl
def f54b14 : AQ := (.block 2 f54l13)
theorem uf54b14 (P ts os Q) : awl P f54b14 Q ts os = awl P (.block 2 f54l13) Q ts os := id rfl
def f54r15 : List AI := [⟨none, (.mov 25 (.t 0))⟩, ⟨none, (.len 26 (.t 25))⟩, ⟨none, (.mov 27 (.v (.k (.c (.int .i64 0)))))⟩]
theorem uf54r15 : type_of% @f54r15.eq_1 := id @f54r15.eq_1
def f54b16 : AQ := (.seq (.region f54r15) f54b14)
theorem uf54b16 (P ts os Q) : awl P f54b16 Q ts os = awl P (.seq (.region f54r15) f54b14) Q ts os := id rfl
def f54b17 : AQ := (.seq f54b16 f54b2)
theorem uf54b17 (P ts os Q) : awl P f54b17 Q ts os = awl P (.seq f54b16 f54b2) Q ts os := id rfl
def f54r18 : List AI := [⟨none, (.mov 23 (.t 3))⟩, ⟨none, (.call (some 24) 67 [(.v (.k (.c (.list 0 (some true) [])))), (.t 23)])⟩, ⟨none, (.mov 6 (.t 24))⟩]
theorem uf54r18 : type_of% @f54r18.eq_1 := id @f54r18.eq_1
def f54b19 : AQ := (.seq (.region f54r18) f54b17)
theorem uf54b19 (P ts os Q) : awl P f54b19 Q ts os = awl P (.seq (.region f54r18) f54b17) Q ts os := id rfl
def f54r20 : List AI := [⟨none, (.bin 22 .add (.t 11) (.v (.k (.c (.int .i64 1)))))⟩, ⟨none, (.mov 11 (.t 22))⟩]
theorem uf54r20 : type_of% @f54r20.eq_1 := id @f54r20.eq_1
def f54b21 : AQ := (.cond (.v V.any) .skip .skip)
def f54b22 : AQ := (.cond (.t 20) f54b21 .skip)
theorem uf54b22 (P ts os Q) : awl P f54b22 Q ts os = awl P (.cond (.t 20) f54b21 .skip) Q ts os := id rfl
def f54r23 : List AI := [⟨none, (.mov 19 (.t 3))⟩, ⟨none, (.bin 20 .lss (.t 19) (.v (.k (.c (.int .i64 0)))))⟩]
theorem uf54r23 : type_of% @f54r23.eq_1 := id @f54r23.eq_1
def f54b24 : AQ := (.seq (.region f54r23) f54b22)
theorem uf54b24 (P ts os Q) : awl P f54b24 Q ts os = awl P (.seq (.region f54r23) f54b22) Q ts os := id rfl
def f54r25 : List AI := [⟨none, (.mov 15 (.t 3))⟩, ⟨none, (.mov 16 (.t 5))⟩, ⟨none, (.len 17 (.t 16))⟩, ⟨none, (.bin 18 .add (.t 15) (.t 17))⟩, ⟨none, (.mov 3 (.t 18))⟩]
theorem uf54r25 : type_of% @f54r25.eq_1 := id @f54r25.eq_1
def f54b26 : AQ := (.seq (.region f54r25) f54b24)
theorem uf54b26 (P ts os Q) : awl P f54b26 Q ts os = awl P (.seq (.region f54r25) f54b24) Q ts os := id rfl
def f54r27 : List AI := [⟨none, (.iaddr 13 1 (.t 9) (.t 11))⟩, ⟨none, (.load 14 1 false (.t 13))⟩, ⟨none, (.mov 5 (.t 14))⟩]
theorem uf54r27 : type_of% @f54r27.eq_1 := id @f54r27.eq_1
def f54b28 : AQ := (.seq (.region f54r27) f54b26)
theorem uf54b28 (P ts os Q) : awl P f54b28 Q ts os = awl P (.seq (.region f54r27) f54b26) Q ts os := id rfl
def f54b29 : AQ := (.block 1 f54b28)
theorem uf54b29 (P ts os Q) : awl P f54b29 Q ts os = awl P (.block 1 f54b28) Q ts os := id rfl
def f54b30 : AQ := (.seq f54b29 (.region f54r20))
theorem uf54b30 (P ts os Q) : awl P f54b30 Q ts os = awl P (.seq f54b29 (.region f54r20)) Q ts os := id rfl
def f54b31 : AQ := (.cond (.t 12) .skip (.exit 0))
theorem uf54b31 (P ts os Q) : awl P f54b31 Q ts os = awl P (.cond (.t 12) .skip (.exit 0)) Q ts os := id rfl
def f54b32 : AQ := (.seq f54b31 f54b30)
theorem uf54b32 (P ts os Q) : awl P f54b32 Q ts os = awl P (.seq f54b31 f54b30) Q ts os := id rfl
def f54r33 : List AI := [⟨none, (.bin 12 .lss (.t 11) (.t 10))⟩]
theorem uf54r33 : type_of% @f54r33.eq_1 := id @f54r33.eq_1
def f54b34 : AQ := (.seq (.region f54r33) f54b32)
theorem uf54b34 (P ts os Q) : awl P f54b34 Q ts os = awl P (.seq (.region f54r33) f54b32) Q ts os := id rfl
def f54l35 : AQ := .loop [0, 3, 9, 10, 11] [] f54b34
theorem uf54l35 (P ts os Q) : awl P f54l35 Q ts os = awl P (.loop [0, 3, 9, 10, 11] [] f54b34) Q ts os := id rfl
def f54b36 : AQ := (.block 0 f54l35)
theorem uf54b36 (P ts os Q) : awl P f54b36 Q ts os = awl P (.block 0 f54l35) Q ts os := id rfl
def f54r37 : List AI := [⟨none, (.mov 9 (.t 0))⟩, ⟨none, (.len 10 (.t 9))⟩, ⟨none, (.mov 11 (.v (.k (.c (.int .i64 0)))))⟩]
theorem uf54r37 : type_of% @f54r37.eq_1 := id @f54r37.eq_1
def f54b38 : AQ := (.seq (.region f54r37) f54b36)
theorem uf54b38 (P ts os Q) : awl P f54b38 Q ts os = awl P (.seq (.region f54r37) f54b36) Q ts os := id rfl
def f54b39 : AQ := (.seq f54b38 f54b19)
theorem uf54b39 (P ts os Q) : awl P f54b39 Q ts os = awl P (.seq f54b38 f54b19) Q ts os := id rfl
def f54r40 : List AI := [⟨none, (.mov 3 (.v (.k (.c (.int .i64 0)))))⟩]
theorem uf54r40 : type_of% @f54r40.eq_1 := id @f54r40.eq_1
def f54b41 : AQ := (.seq (.region f54r40) f54b39)
theorem uf54b41 (P ts os Q) : awl P f54b41 Q ts os = awl P (.seq (.region f54r40) f54b39) Q ts os := id rfl
def f54r42 : List AI := [⟨none, (.nilL 2 3 1)⟩]
theorem uf54r42 : type_of% @f54r42.eq_1 := id @f54r42.eq_1
def f54b43 : AQ := (.seq (.region f54r42) f54b41)
theorem uf54b43 (P ts os Q) : awl P f54b43 Q ts os = awl P (.seq (.region f54r42) f54b41) Q ts os := id rfl
def f54 : AQ := f54b43
theorem uf54 (P ts os Q) : awl P f54 Q ts os = awl P f54b43 Q ts os := id rfl
theorem hf54 : cFunc Tryd.prog 54 = some ⟨36, f54.erase, [(RX.t 2)]⟩ := by kernel_rfl
theorem okf54 : f54.ok = true := by kernel_rfl
def f55r1 : List AI := [⟨none, (.mov 74 (.t 9))⟩, ⟨none, (.mov 2 (.t 74))⟩, ⟨none, (.mov 3 (.v (.k (.c (.int .i64 0)))))⟩]
theorem uf55r1 : type_of% @f55r1.eq_1 := id @f55r1.eq_1
def f55b2 : AQ := (.seq (.region f55r1) .ret)
theorem uf55b2 (P ts os Q) : awl P f55b2 Q ts os = awl P (.seq (.region f55r1) .ret) Q ts os := id rfl
def f55r3 : List AI := [⟨none, (.mov 2 (.v (.k (.c (.int .i64 0)))))⟩, ⟨none, (.mov 3 (.v (.k (.c (.int .i64 11)))))⟩]
theorem uf55r3 : type_of% @f55r3.eq_1 := id @f55r3.eq_1
def f55b4 : AQ := (.seq (.region f55r3) .ret)
theorem uf55b4 (P ts os Q) : awl P f55b4 Q ts os = awl P (.seq (.region f55r3) .ret) Q ts os := id rfl
def f55b5 : AQ := (.cond (.t 73) f55b4 .skip)
theorem uf55b5 (P ts os Q) : awl P f55b5 Q ts os = awl P (.cond (.t 73) f55b4 .skip) Q ts os := id rfl
def f55r6 : List AI := [⟨none, (.mov 72 (.t 10))⟩, ⟨none, (.un 73 .not (.t 72))⟩]
theorem uf55r6 : type_of% @f55r6.eq_1 := id @f55r6.eq_1
def f55b7 : AQ := (.seq (.region f55r6) f55b5)
theorem uf55b7 (P ts os Q) : awl P f55b7 Q ts os = awl P (.seq (.region f55r6) f55b5) Q ts os := id rfl
def f55b8 : AQ := (.seq f55b7 f55b2)
theorem uf55b8 (P ts os Q) : awl P f55b8 Q ts os = awl P (.seq f55b7 f55b2) Q ts os := id rfl
def f55r9 : List AI := [⟨none, (.faddr 66 0 (.t 1))⟩, ⟨none, (.load 67 1 false (.t 66))⟩, ⟨none, (.mov 68 (.t 4))⟩, ⟨none, (.call (some 69) 70 [(.t 67), (.t 68)])⟩, ⟨none, (.mov 65 (.t 69))⟩, ⟨none, (.extr 70 (.t 65) 0)⟩, ⟨none, (.extr 71 (.t 65) 1)⟩, ⟨none, (.mov 9 (.t 70))⟩, ⟨none, (.mov 10 (.t 71))⟩]
theorem uf55r9 : type_of% @f55r9.eq_1 := id @f55r9.eq_1
def f55b10 : AQ := (.seq (.region f55r9) f55b8)
theorem uf55b10 (P ts os Q) : awl P f55b10 Q ts os = awl P (.seq (.region f55r9) f55b8) Q ts os := id rfl
def f55r11 : List AI := [⟨none, (.load 61 3 true (.t 1))⟩, ⟨none, (.call (some 62) 69 [(.t 61)])⟩, ⟨none, (.extr 63 (.t 62) 0)⟩, ⟨none, (.extr 64 (.t 62) 1)⟩, ⟨none, (.mov 2 (.t 63))⟩, ⟨none, (.mov 3 (.t 64))⟩]
theorem uf55r11 : type_of% @f55r11.eq_1 := id @f55r11.eq_1
def f55b12 : AQ := (.seq (.region f55r11) .ret)
theorem uf55b12 (P ts os Q) : awl P f55b12 Q ts os = awl P (.seq (.region f55r11) .ret) Q ts os := id rfl
def f55b13 : AQ := (.cond (.t 60) f55b12 .skip)
theorem uf55b13 (P ts os Q) : awl P f55b13 Q ts os = awl P (.cond (.t 60) f55b12 .skip) Q ts os := id rfl
def f55r14 : List AI := [⟨none, (.mov 59 (.t 8))⟩, ⟨none, (.bin 60 .eql (.t 59) (.v (.k (.c (.int .i64 0)))))⟩]
theorem uf55r14 : type_of% @f55r14.eq_1 := id @f55r14.eq_1
def f55b15 : AQ := (.seq (.region f55r14) f55b13)
theorem uf55b15 (P ts os Q) : awl P f55b15 Q ts os = awl P (.seq (.region f55r14) f55b13) Q ts os := id rfl
def f55b16 : AQ := (.seq f55b15 f55b10)
theorem uf55b16 (P ts os Q) : awl P f55b16 Q ts os = awl P (.seq f55b15 f55b10) Q ts os := id rfl
def f55r17 : List AI := [⟨none, (.mov 2 (.v (.k (.c (.int .i64 0)))))⟩, ⟨none, (.mov 3 (.v (.k (.c (.int .i64 2)))))⟩]
theorem uf55r17 : type_of% @f55r17.eq_1 := id @f55r17.eq_1
def f55b18 : AQ := (.seq (.region f55r17) .ret)
theorem uf55b18 (P ts os Q) : awl P f55b18 Q ts os = awl P (.seq (.region f55r17) .ret) Q ts os := id rfl
def f55b19 : AQ := (.cond (.t 58) f55b18 .skip)
theorem uf55b19 (P ts os Q) : awl P f55b19 Q ts os = awl P (.cond (.t 58) f55b18 .skip) Q ts os := id rfl
def f55r20 : List AI := [⟨none, (.mov 46 (.t 4))⟩, ⟨none, (.len 47 (.t 46))⟩, ⟨none, (.mov 48 (.t 8))⟩, ⟨none, (.bin 49 .neq (.t 47) (.t 48))⟩, ⟨none, (.mov 50 (.t 49))⟩, ⟨(some (50, false)), (.mov 51 (.t 8))⟩, ⟨(some (50, false)), (.bin 52 .gtr (.t 51) (.v (.k (.c (.int .i64 0)))))⟩, ⟨(some (50, false)), (.mov 53 (.t 52))⟩, ⟨(some (53, true)), (.faddr 54 1 (.t 1))⟩, ⟨(some (53, true)), (.load 55 1 false (.t 54))⟩, ⟨(some (53, true)), (.bin 56 .neq (.t 55) (.v (.k (.c (.int .i64 0)))))⟩, ⟨(some (50, false)), (.pick 57 (.t 53) (.t 56) (.v (.k (.c (.bool false)))))⟩, ⟨none, (.pick 58 (.t 50) (.v (.k (.c (.bool true)))) (.t 57))⟩]
theorem uf55r20 : type_of% @f55r20.eq_1 := id @f55r20.eq_1
def f55b21 : AQ := (.seq (.region f55r20) f55b19)
theorem uf55b21 (P ts os Q) : awl P f55b21 Q ts os = awl P (.seq (.region f55r20) f55b19) Q ts os := id rfl
def f55b22 : AQ := (.seq f55b21 f55b16)
theorem uf55b22 (P ts os Q) : awl P f55b22 Q ts os = awl P (.seq f55b21 f55b16) Q ts os := id rfl
def f55r23 : List AI := [⟨none, (.faddr 43 0 (.t 1))⟩, ⟨none, (.load 44 1 false (.t 43))⟩, ⟨none, (.call (some 45) 68 [(.t 44)])⟩, ⟨none, (.mov 8 (.t 45))⟩]
theorem uf55r23 : type_of% @f55r23.eq_1 := id @f55r23.eq_1
def f55b24 : AQ := (.seq (.region f55r23) f55b22)
theorem uf55b24 (P ts os Q) : awl P f55b24 Q ts os = awl P (.seq (.region f55r23) f55b22) Q ts os := id rfl
def f55r25 : List AI := [⟨none, (.mov 2 (.v (.k (.c (.int .i64 0)))))⟩, ⟨none, (.mov 3 (.v (.k (.c (.int .i64 1)))))⟩]
theorem uf55r25 : type_of% @f55r25.eq_1 := id @f55r25.eq_1
def f55b26 : AQ := (.seq (.region f55r25) .ret)
theorem uf55b26 (P ts os Q) : awl P f55b26 Q ts os = awl P (.seq (.region f55r25) .ret) Q ts os := id rfl
def f55b27 : AQ := (.cond (.t 42) f55b26 .skip)
theorem uf55b27 (P ts os Q) : awl P f55b27 Q ts os = awl P (.cond (.t 42) f55b26 .skip) Q ts os := id rfl
def f55r28 : List AI := [⟨none, (.faddr 35 0 (.t 1))⟩, ⟨none, (.load 36 1 false (.t 35))⟩, ⟨none, (.bin 37 .lss (.t 36) (.v (.k (.c (.int .i64 0)))))⟩, ⟨none, (.mov 38 (.t 37))⟩, ⟨(some (38, false)), (.faddr 39 0 (.t 1))⟩, ⟨(some (38, false)), (.load 40 1 false (.t 39))⟩, ⟨(some (38, false)), (.bin 41 .geq (.t 40) (.v (.k (.c (.int .i64 14)))))⟩, ⟨none, (.pick 42 (.t 38) (.v (.k (.c (.bool true)))) (.t 41))⟩]
theorem uf55r28 : type_of% @f55r28.eq_1 := id @f55r28.eq_1
def f55b29 : AQ := (.seq (.region f55r28) f55b27)
theorem uf55b29 (P ts os Q) : awl P f55b29 Q ts os = awl P (.seq (.region f55r28) f55b27) Q ts os := id rfl
def f55b30 : AQ := (.seq f55b29 f55b24)
theorem uf55b30 (P ts os Q) : awl P f55b30 Q ts os = awl P (.seq f55b29 f55b24) Q ts os := id rfl
def f55r31 : List AI := [⟨none, (.mov 17 (.t 5))⟩, ⟨none, (.bin 18 .add (.t 17) (.v (.k (.c (.int .i64 1)))))⟩, ⟨none, (.mov 5 (.t 18))⟩]
theorem uf55r31 : type_of% @f55r31.eq_1 := id @f55r31.eq_1
def f55r32 : List AI := [⟨none, (.mov 31 (.t 4))⟩, ⟨none, (.mov 32 (.t 6))⟩, ⟨none, (.bslice 33 3 1 [(.int .i64 0)] 1 [(0, (.t 32))])⟩, ⟨none, (.append 34 3 1 8 (.t 31) (.t 33))⟩, ⟨none, (.mov 4 (.t 34))⟩]
theorem uf55r32 : type_of% @f55r32.eq_1 := id @f55r32.eq_1
def f55r33 : List AI := [⟨none, (.mov 30 (.t 7))⟩, ⟨none, (.mov 2 (.v (.k (.c (.int .i64 0)))))⟩, ⟨none, (.mov 3 (.t 30))⟩]
theorem uf55r33 : type_of% @f55r33.eq_1 := id @f55r33.eq_1
def f55b34 : AQ := (.seq (.region f55r33) .ret)
theorem uf55b34 (P ts os Q) : awl P f55b34 Q ts os = awl P (.seq (.region f55r33) .ret) Q ts os := id rfl
def f55b35 : AQ := (.cond (.t 29) f55b34 .skip)
theorem uf55b35 (P ts os Q) : awl P f55b35 Q ts os = awl P (.cond (.t 29) f55b34 .skip) Q ts os := id rfl
def f55r36 : List AI := [⟨none, (.mov 28 (.t 7))⟩, ⟨none, (.bin 29 .neq (.t 28) (.v (.k (.c (.int .i64 0)))))⟩]
theorem uf55r36 : type_of% @f55r36.eq_1 := id @f55r36.eq_1
def f55b37 : AQ := (.seq (.region f55r36) f55b35)
theorem uf55b37 (P ts os Q) : awl P f55b37 Q ts os = awl P (.seq (.region f55r36) f55b35) Q ts os := id rfl
def f55b38 : AQ := (.seq f55b37 (.region f55r32))
theorem uf55b38 (P ts os Q) : awl P f55b38 Q ts os = awl P (.seq f55b37 (.region f55r32)) Q ts os := id rfl
def f55r39 : List AI := [⟨none, (.faddr 20 2 (.t 1))⟩, ⟨none, (.load 21 1 false (.t 20))⟩, ⟨none, (.mov 22 (.t 5))⟩, ⟨none, (.iaddr 23 3 (.t 21) (.t 22))⟩, ⟨none, (.load 24 3 true (.t 23))⟩, ⟨none, (.call (some 25) 55 [(.t 24)])⟩, ⟨none, (.mov 19 (.t 25))⟩, ⟨none, (.extr 26 (.t 19) 0)⟩, ⟨none, (.extr 27 (.t 19) 1)⟩, ⟨none, (.mov 6 (.t 26))⟩, ⟨none, (.mov 7 (.t 27))⟩]
theorem uf55r39 : type_of% @f55r39.eq_1 := id @f55r39.eq_1
def f55b40 : AQ := (.seq (.region f55r39) f55b38)
theorem uf55b40 (P ts os Q) : awl P f55b40 Q ts os = awl P (.seq (.region f55r39) f55b38) Q ts os := id rfl
def f55b41 : AQ := (.block 1 f55b40)
theorem uf55b41 (P ts os Q) : awl P f55b41 Q ts os = awl P (.block 1 f55b40) Q ts os := id rfl
def f55b42 : AQ := (.seq f55b41 (.region f55r31))
theorem uf55b42 (P ts os Q) : awl P f55b42 Q ts os = awl P (.seq f55b41 (.region f55r31)) Q ts os := id rfl
def f55b43 : AQ := (.cond (.t 16) .skip (.exit 0))
theorem uf55b43 (P ts os Q) : awl P f55b43 Q ts os = awl P (.cond (.t 16) .skip (.exit 0)) Q ts os := id rfl
def f55r44 : List AI := [⟨none, (.mov 12 (.t 5))⟩, ⟨none, (.faddr 13 2 (.t 1))⟩, ⟨none, (.load 14 1 false (.t 13))⟩, ⟨none, (.len 15 (.t 14))⟩, ⟨none, (.bin 16 .lss (.t 12) (.t 15))⟩]
theorem uf55r44 : type_of% @f55r44.eq_1 := id @f55r44.eq_1
def f55b45 : AQ := (.seq (.region f55r44) f55b43)
theorem uf55b45 (P ts os Q) : awl P f55b45 Q ts os = awl P (.seq (.region f55r44) f55b43) Q ts os := id rfl
def f55b46 : AQ := (.seq f55b45 f55b42)
theorem uf55b46 (P ts os Q) : awl P f55b46 Q ts os = awl P (.seq f55b45 f55b42) Q ts os := id rfl
def f55l47 : AQ := .loop [1, 4, 5] [1, 11, 34] f55b46
theorem uf55l47 (P ts os Q) : awl P f55l47 Q ts os = awl P (.loop [1, 4, 5] [1, 11, 34] f55b46) Q ts os := id rfl
def f55b48 : AQ := (.block 0 f55l47)
theorem uf55b48 (P ts os Q) : awl P f55b48 Q ts os = awl P (.block 0 f55l47) Q ts os := id rfl
def f55r49 : List AI := [⟨none, (.mov 5 (.v (.k (.c (.int .i64 0)))))⟩]
theorem uf55r49 : type_of% @f55r49.eq_1 := id @f55r49.eq_1
def f55b50 : AQ := (.seq (.region f55r49) f55b48)
theorem uf55b50 (P ts os Q) : awl P f55b50 Q ts os = awl P (.seq (.region f55r49) f55b48) Q ts os := id rfl
def f55b51 : AQ := (.seq f55b50 f55b30)
theorem uf55b51 (P ts os Q) : awl P f55b51 Q ts os = awl P (.seq f55b50 f55b30) Q ts os := id rfl
def f55r52 : List AI := [⟨none, (.bslice 11 3 1 [(.int .i64 0)] 0 [])⟩, ⟨none, (.mov 4 (.t 11))⟩]
theorem uf55r52 : type_of% @f55r52.eq_1 := id @f55r52.eq_1
def f55b53 : AQ := (.seq (.region f55r52) f55b51)
theorem uf55b53 (P ts os Q) : awl P f55b53 Q ts os = awl P (.seq (.region f55r52) f55b51) Q ts os := id rfl
def f55r54 : List AI := [⟨none, (.box 1 50 (.t 0))⟩, ⟨none, (.mov 2 (.v (.k (.c (.int .i64 0)))))⟩, ⟨none, (.mov 3 (.v (.k (.c (.int .i64 0)))))⟩]
theorem uf55r54 : type_of% @f55r54.eq_1 := id @f55r54.eq_1
def f55b55 : AQ := (.seq (.region f55r54) f55b53)
theorem uf55b55 (P ts os Q) : awl P f55b55 Q ts os = awl P (.seq (.region f55r54) f55b53) Q ts os := id rfl
def f55 : AQ := f55b55
theorem uf55 (P ts os Q) : awl P f55 Q ts os = awl P f55b55 Q ts os := id rfl
theorem hf55 : cFunc Tryd.prog 55 = some ⟨75, f55.erase, [(RX.t 2), (RX.t 3)]⟩ := by kernel_rfl
theorem okf55 : f55.ok = true := by kernel_rfl
def f56r1 : List AI := [⟨none, (.build 40 [(.bool false), (.int .i64 0)] [(0, (1, (.v (.k (.c (.bool true))))))])⟩, ⟨none, (.store 2 (.t 4) (.t 40))⟩]
theorem uf56r1 : type_of% @f56r1.eq_1 := id @f56r1.eq_1
def f56b2 : AQ := (.seq (.region f56r1) .ret)
theorem uf56b2 (P ts os Q) : awl P f56b2 Q ts os = awl P (.seq (.region f56r1) .ret) Q ts os := id rfl
def f56r3 : List AI := [⟨none, (.build 39 [(.bool false), (.int .i64 0)] [(0, (1, (.v (.k (.c (.bool true)))))), (1, (1, (.v (.k (.c (.int .i64 1))))))])⟩, ⟨none, (.store 2 (.t 4) (.t 39))⟩]
theorem uf56r3 : type_of% @f56r3.eq_1 := id @f56r3.eq_1
def f56b4 : AQ := (.seq (.region f56r3) .ret)
theorem uf56b4 (P ts os Q) : awl P f56b4 Q ts os = awl P (.seq (.region f56r3) .ret) Q ts os := id rfl
def f56b5 : AQ := (.cond (.t 38) f56b4 .skip)
theorem uf56b5 (P ts os Q) : awl P f56b5 Q ts os = awl P (.cond (.t 38) f56b4 .skip) Q ts os := id rfl
def f56r6 : List AI := [⟨none, (.faddr 36 1 (.t 5))⟩, ⟨none, (.load 37 1 false (.t 36))⟩, ⟨none, (.bin 38 .neq (.t 37) (.v (.k (.c (.int .i64 0)))))⟩]
theorem uf56r6 : type_of% @f56r6.eq_1 := id @f56r6.eq_1
def f56b7 : AQ := (.seq (.region f56r6) f56b5)
theorem uf56b7 (P ts os Q) : awl P f56b7 Q ts os = awl P (.seq (.region f56r6) f56b5) Q ts os := id rfl
def f56b8 : AQ := (.seq f56b7 f56b2)
theorem uf56b8 (P ts os Q) : awl P f56b8 Q ts os = awl P (.seq f56b7 f56b2) Q ts os := id rfl
def f56r9 : List AI := [⟨none, (.faddr 32 1 (.t 5))⟩, ⟨none, (.load 33 1 false (.t 32))⟩, ⟨none, (.call (some 34) 72 [(.t 33)])⟩, ⟨none, (.build 35 [(.bool false), (.int .i64 0)] [(0, (1, (.v (.k (.c (.bool true)))))), (1, (1, (.t 34)))])⟩, ⟨none, (.store 2 (.t 4) (.t 35))⟩]
theorem uf56r9 : type_of% @f56r9.eq_1 := id @f56r9.eq_1
def f56b10 : AQ := (.seq (.region f56r9) .ret)
theorem uf56b10 (P ts os Q) : awl P f56b10 Q ts os = awl P (.seq (.region f56r9) .ret) Q ts os := id rfl
def f56b11 : AQ := (.cond (.t 31) f56b10 .skip)
theorem uf56b11 (P ts os Q) : awl P f56b11 Q ts os = awl P (.cond (.t 31) f56b10 .skip) Q ts os := id rfl
def f56r12 : List AI := [⟨none, (.mov 30 (.t 6))⟩, ⟨none, (.bin 31 .eql (.t 30) (.v (.k (.c (.int .i64 0)))))⟩]
theorem uf56r12 : type_of% @f56r12.eq_1 := id @f56r12.eq_1
def f56b13 : AQ := (.seq (.region f56r12) f56b11)
theorem uf56b13 (P ts os Q) : awl P f56b13 Q ts os = awl P (.seq (.region f56r12) f56b11) Q ts os := id rfl
def f56b14 : AQ := (.seq f56b13 f56b8)
theorem uf56b14 (P ts os Q) : awl P f56b14 Q ts os = awl P (.seq f56b13 f56b8) Q ts os := id rfl
def f56r15 : List AI := [⟨none, (.mov 26 (.t 0))⟩, ⟨none, (.call (some 27) 71 [(.t 26)])⟩, ⟨none, (.mov 25 (.t 27))⟩, ⟨none, (.extr 28 (.t 25) 0)⟩, ⟨none, (.extr 29 (.t 25) 1)⟩, ⟨none, (.mov 6 (.t 28))⟩, ⟨none, (.mov 7 (.t 29))⟩]
theorem uf56r15 : type_of% @f56r15.eq_1 := id @f56r15.eq_1
def f56b16 : AQ := (.seq (.region f56r15) f56b14)
theorem uf56b16 (P ts os Q) : awl P f56b16 Q ts os = awl P (.seq (.region f56r15) f56b14) Q ts os := id rfl
def f56r17 : List AI := [⟨none, (.build 24 [(.bool false), (.int .i64 0)] [])⟩, ⟨none, (.store 2 (.t 4) (.t 24))⟩]
theorem uf56r17 : type_of% @f56r17.eq_1 := id @f56r17.eq_1
def f56b18 : AQ := (.seq (.region f56r17) .ret)
theorem uf56b18 (P ts os Q) : awl P f56b18 Q ts os = awl P (.seq (.region f56r17) .ret) Q ts os := id rfl
def f56b19 : AQ := (.cond (.t 23) f56b18 .skip)
theorem uf56b19 (P ts os Q) : awl P f56b19 Q ts os = awl P (.cond (.t 23) f56b18 .skip) Q ts os := id rfl
def f56r20 : List AI := [⟨none, (.faddr 21 0 (.t 5))⟩, ⟨none, (.load 22 1 false (.t 21))⟩, ⟨none, (.un 23 .not (.t 22))⟩]
theorem uf56r20 : type_of% @f56r20.eq_1 := id @f56r20.eq_1
def f56b21 : AQ := (.seq (.region f56r20) f56b19)
theorem uf56b21 (P ts os Q) : awl P f56b21 Q ts os = awl P (.seq (.region f56r20) f56b19) Q ts os := id rfl
def f56b22 : AQ := (.seq f56b21 f56b16)
theorem uf56b22 (P ts os Q) : awl P f56b22 Q ts os = awl P (.seq f56b21 f56b16) Q ts os := id rfl
def f56r23 : List AI := [⟨none, (.mov 17 (.t 1))⟩, ⟨none, (.mov 18 (.t 0))⟩, ⟨none, (.iaddr 19 2 (.t 17) (.t 18))⟩, ⟨none, (.load 20 2 true (.t 19))⟩, ⟨none, (.alloc 5 30 [(.bool false), (.int .i64 0)])⟩, ⟨none, (.store 2 (.t 5) (.t 20))⟩]
theorem uf56r23 : type_of% @f56r23.eq_1 := id @f56r23.eq_1
def f56b24 : AQ := (.seq (.region f56r23) f56b22)
theorem uf56b24 (P ts os Q) : awl P f56b24 Q ts os = awl P (.seq (.region f56r23) f56b22) Q ts os := id rfl
def f56r25 : List AI := [⟨none, (.build 16 [(.bool false), (.int .i64 0)] [])⟩, ⟨none, (.store 2 (.t 4) (.t 16))⟩]
theorem uf56r25 : type_of% @f56r25.eq_1 := id @f56r25.eq_1
def f56b26 : AQ := (.seq (.region f56r25) .ret)
theorem uf56b26 (P ts os Q) : awl P f56b26 Q ts os = awl P (.seq (.region f56r25) .ret) Q ts os := id rfl
def f56b27 : AQ := (.cond (.t 15) f56b26 .skip)
theorem uf56b27 (P ts os Q) : awl P f56b27 Q ts os = awl P (.cond (.t 15) f56b26 .skip) Q ts os := id rfl
def f56r28 : List AI := [⟨none, (.mov 8 (.t 0))⟩, ⟨none, (.bin 9 .lss (.t 8) (.v (.k (.c (.int .i64 0)))))⟩, ⟨none, (.mov 10 (.t 9))⟩, ⟨(some (10, false)), (.mov 11 (.t 0))⟩, ⟨(some (10, false)), (.mov 12 (.t 1))⟩, ⟨(some (10, false)), (.len 13 (.t 12))⟩, ⟨(some (10, false)), (.bin 14 .geq (.t 11) (.t 13))⟩, ⟨none, (.pick 15 (.t 10) (.v (.k (.c (.bool true)))) (.t 14))⟩]
theorem uf56r28 : type_of% @f56r28.eq_1 := id @f56r28.eq_1
def f56b29 : AQ := (.seq (.region f56r28) f56b27)
theorem uf56b29 (P ts os Q) : awl P f56b29 Q ts os = awl P (.seq (.region f56r28) f56b27) Q ts os := id rfl
def f56b30 : AQ := (.seq f56b29 f56b24)
theorem uf56b30 (P ts os Q) : awl P f56b30 Q ts os = awl P (.seq f56b29 f56b24) Q ts os := id rfl
def f56r31 : List AI := [⟨none, (.alloc 4 30 [(.bool false), (.int .i64 0)])⟩]
theorem uf56r31 : type_of% @f56r31.eq_1 := id @f56r31.eq_1
def f56b32 : AQ := (.seq (.region f56r31) f56b30)
theorem uf56b32 (P ts os Q) : awl P f56b32 Q ts os = awl P (.seq (.region f56r31) f56b30) Q ts os := id rfl
def f56 : AQ := f56b32
theorem uf56 (P ts os Q) : awl P f56 Q ts os = awl P f56b32 Q ts os := id rfl
theorem hf56 : cFunc Tryd.prog 56 = some ⟨41, f56.erase, [(RX.cell 4 2 true)]⟩ := by kernel_rfl
theorem okf56 : f56.ok = true := by kernel_rfl
def f57r1 : List AI := [⟨none, (.build 36 [(.bool false), (.int .i64 0)] [])⟩, ⟨none, (.store 2 (.t 6) (.t 36))⟩]
theorem uf57r1 : type_of% @f57r1.eq_1 := id @f57r1.eq_1
def f57b2 : AQ := (.seq (.region f57r1) .ret)
theorem uf57b2 (P ts os Q) : awl P f57b2 Q ts os = awl P (.seq (.region f57r1) .ret) Q ts os := id rfl
def f57r3 : List AI := [⟨none, (.mov 33 (.t 2))⟩, ⟨none, (.bin 34 .sub (.v (.k (.c (.int .i64 1)))) (.t 33))⟩, ⟨none, (.build 35 [(.bool false), (.int .i64 0)] [(0, (1, (.v (.k (.c (.bool true)))))), (1, (1, (.t 34)))])⟩, ⟨none, (.store 2 (.t 6) (.t 35))⟩]
theorem uf57r3 : type_of% @f57r3.eq_1 := id @f57r3.eq_1
def f57b4 : AQ := (.seq (.region f57r3) .ret)
theorem uf57b4 (P ts os Q) : awl P f57b4 Q ts os = awl P (.seq (.region f57r3) .ret) Q ts os := id rfl
def f57b5 : AQ := (.cond (.t 32) f57b4 .skip)
theorem uf57b5 (P ts os Q) : awl P f57b5 Q ts os = awl P (.cond (.t 32) f57b4 .skip) Q ts os := id rfl
def f57r6 : List AI := [⟨none, (.faddr 27 0 (.t 3))⟩, ⟨none, (.load 28 1 false (.t 27))⟩, ⟨none, (.mov 29 (.t 28))⟩, ⟨(some (29, true)), (.faddr 30 0 (.t 4))⟩, ⟨(some (29, true)), (.load 31 1 false (.t 30))⟩, ⟨none, (.pick 32 (.t 29) (.t 31) (.v (.k (.c (.bool false)))))⟩]
theorem uf57r6 : type_of% @f57r6.eq_1 := id @f57r6.eq_1
def f57b7 : AQ := (.seq (.region f57r6) f57b5)
theorem uf57b7 (P ts os Q) : awl P f57b7 Q ts os = awl P (.seq (.region f57r6) f57b5) Q ts os := id rfl
def f57b8 : AQ := (.seq f57b7 f57b2)
theorem uf57b8 (P ts os Q) : awl P f57b8 Q ts os = awl P (.seq f57b7 f57b2) Q ts os := id rfl
def f57r9 : List AI := [⟨none, (.mov 25 (.t 2))⟩, ⟨none, (.build 26 [(.bool false), (.int .i64 0)] [(0, (1, (.v (.k (.c (.bool true)))))), (1, (1, (.t 25)))])⟩, ⟨none, (.store 2 (.t 6) (.t 26))⟩]
theorem uf57r9 : type_of% @f57r9.eq_1 := id @f57r9.eq_1
def f57b10 : AQ := (.seq (.region f57r9) .ret)
theorem uf57b10 (P ts os Q) : awl P f57b10 Q ts os = awl P (.seq (.region f57r9) .ret) Q ts os := id rfl
def f57b11 : AQ := (.cond (.t 24) f57b10 .skip)
theorem uf57b11 (P ts os Q) : awl P f57b11 Q ts os = awl P (.cond (.t 24) f57b10 .skip) Q ts os := id rfl
def f57r12 : List AI := [⟨none, (.faddr 7 0 (.t 3))⟩, ⟨none, (.load 8 1 false (.t 7))⟩, ⟨none, (.mov 9 (.t 8))⟩, ⟨(some (9, true)), (.faddr 10 1 (.t 3))⟩, ⟨(some (9, true)), (.load 11 1 false (.t 10))⟩, ⟨(some (9, true)), (.mov 12 (.t 2))⟩, ⟨(some (9, true)), (.bin 13 .eql (.t 11) (.t 12))⟩, ⟨none, (.pick 14 (.t 9) (.t 13) (.v (.k (.c (.bool false)))))⟩, ⟨none, (.mov 15 (.t 14))⟩, ⟨(some (15, false)), (.faddr 16 0 (.t 4))⟩, ⟨(some (15, false)), (.load 17 1 false (.t 16))⟩, ⟨(some (15, false)), (.mov 18 (.t 17))⟩, ⟨(some (18, true)), (.faddr 19 1 (.t 4))⟩, ⟨(some (18, true)), (.load 20 1 false (.t 19))⟩, ⟨(some (18, true)), (.mov 21 (.t 2))⟩, ⟨(some (18, true)), (.bin 22 .eql (.t 20) (.t 21))⟩, ⟨(some (15, false)), (.pick 23 (.t 18) (.t 22) (.v (.k (.c (.bool false)))))⟩, ⟨none, (.pick 24 (.t 15) (.v (.k (.c (.bool true)))) (.t 23))⟩]
theorem uf57r12 : type_of% @f57r12.eq_1 := id @f57r12.eq_1
def f57b13 : AQ := (.seq (.region f57r12) f57b11)
theorem uf57b13 (P ts os Q) : awl P f57b13 Q ts os = awl P (.seq (.region f57r12) f57b11) Q ts os := id rfl
def f57b14 : AQ := (.seq f57b13 f57b8)
theorem uf57b14 (P ts os Q) : awl P f57b14 Q ts os = awl P (.seq f57b13 f57b8) Q ts os := id rfl
def f57r15 : List AI := [⟨none, (.box 3 30 (.t 0))⟩, ⟨none, (.box 4 30 (.t 1))⟩, ⟨none, (.alloc 6 30 [(.bool false), (.int .i64 0)])⟩]
theorem uf57r15 : type_of% @f57r15.eq_1 := id @f57r15.eq_1
def f57b16 : AQ := (.seq (.region f57r15) f57b14)
theorem uf57b16 (P ts os Q) : awl P f57b16 Q ts os = awl P (.seq (.region f57r15) f57b14) Q ts os := id rfl
def f57 : AQ := f57b16
theorem uf57 (P ts os Q) : awl P f57 Q ts os = awl P f57b16 Q ts os := id rfl
theorem hf57 : cFunc Tryd.prog 57 = some ⟨37, f57.erase, [(RX.cell 6 2 true)]⟩ := by kernel_rfl
theorem okf57 : f57.ok = true := by kernel_rfl
def f58r1 : List AI := [⟨none, (.mov 46 (.t 1))⟩, ⟨none, (.mov 47 (.t 2))⟩, ⟨none, (.minmax 48 true (.t 46) [(.t 47)])⟩, ⟨none, (.build 49 [(.bool false), (.int .i64 0)] [(0, (1, (.v (.k (.c (.bool true)))))), (1, (1, (.t 48)))])⟩, ⟨none, (.store 2 (.t 6) (.t 49))⟩]
theorem uf58r1 : type_of% @f58r1.eq_1 := id @f58r1.eq_1
def f58b2 : AQ := (.seq (.region f58r1) .ret)
theorem uf58b2 (P ts os Q) : awl P f58b2 Q ts os = awl P (.seq (.region f58r1) .ret) Q ts os := id rfl
def f58r3 : List AI := [⟨none, (.mov 10 (.t 1))⟩, ⟨none, (.mov 11 (.t 2))⟩, ⟨none, (.bin 12 .lss (.t 10) (.t 11))⟩, ⟨none, (.call (some 13) 73 [(.t 12)])⟩, ⟨none, (.store 2 (.t 6) (.t 13))⟩]
theorem uf58r3 : type_of% @f58r3.eq_1 := id @f58r3.eq_1
def f58b4 : AQ := (.seq (.region f58r3) .ret)
theorem uf58b4 (P ts os Q) : awl P f58b4 Q ts os = awl P (.seq (.region f58r3) .ret) Q ts os := id rfl
def f58r5 : List AI := [⟨none, (.mov 16 (.t 1))⟩, ⟨none, (.mov 17 (.t 2))⟩, ⟨none, (.bin 18 .eql (.t 16) (.t 17))⟩, ⟨none, (.call (some 19) 73 [(.t 18)])⟩, ⟨none, (.store 2 (.t 6) (.t 19))⟩]
theorem uf58r5 : type_of% @f58r5.eq_1 := id @f58r5.eq_1
def f58b6 : AQ := (.seq (.region f58r5) .ret)
theorem uf58b6 (P ts os Q) : awl P f58b6 Q ts os = awl P (.seq (.region f58r5) .ret) Q ts os := id rfl
def f58r7 : List AI := [⟨none, (.mov 22 (.t 1))⟩, ⟨none, (.mov 23 (.t 2))⟩, ⟨none, (.bin 24 .add (.t 22) (.t 23))⟩, ⟨none, (.call (some 25) 72 [(.t 24)])⟩, ⟨none, (.build 26 [(.bool false), (.int .i64 0)] [(0, (1, (.v (.k (.c (.bool true)))))), (1, (1, (.t 25)))])⟩, ⟨none, (.store 2 (.t 6) (.t 26))⟩]
theorem uf58r7 : type_of% @f58r7.eq_1 := id @f58r7.eq_1
def f58b8 : AQ := (.seq (.region f58r7) .ret)
theorem uf58b8 (P ts os Q) : awl P f58b8 Q ts os = awl P (.seq (.region f58r7) .ret) Q ts os := id rfl
def f58r9 : List AI := [⟨none, (.mov 29 (.t 1))⟩, ⟨none, (.mov 30 (.t 2))⟩, ⟨none, (.bin 31 .sub (.t 29) (.t 30))⟩, ⟨none, (.call (some 32) 72 [(.t 31)])⟩, ⟨none, (.build 33 [(.bool false), (.int .i64 0)] [(0, (1, (.v (.k (.c (.bool true)))))), (1, (1, (.t 32)))])⟩, ⟨none, (.store 2 (.t 6) (.t 33))⟩]
theorem uf58r9 : type_of% @f58r9.eq_1 := id @f58r9.eq_1
def f58b10 : AQ := (.seq (.region f58r9) .ret)
theorem uf58b10 (P ts os Q) : awl P f58b10 Q ts os = awl P (.seq (.region f58r9) .ret) Q ts os := id rfl
def f58r11 : List AI := [⟨none, (.mov 36 (.t 1))⟩, ⟨none, (.mov 37 (.t 2))⟩, ⟨none, (.call (some 38) 74 [(.t 36), (.t 37)])⟩, ⟨none, (.build 39 [(.bool false), (.int .i64 0)] [(0, (1, (.v (.k (.c (.bool true)))))), (1, (1, (.t 38)))])⟩, ⟨none, (.store 2 (.t 6) (.t 39))⟩]
theorem uf58r11 : type_of% @f58r11.eq_1 := id @f58r11.eq_1
def f58b12 : AQ := (.seq (.region f58r11) .ret)
theorem uf58b12 (P ts os Q) : awl P f58b12 Q ts os = awl P (.seq (.region f58r11) .ret) Q ts os := id rfl
def f58r13 : List AI := [⟨none, (.mov 42 (.t 1))⟩, ⟨none, (.mov 43 (.t 2))⟩, ⟨none, (.minmax 44 false (.t 42) [(.t 43)])⟩, ⟨none, (.build 45 [(.bool false), (.int .i64 0)] [(0, (1, (.v (.k (.c (.bool true)))))), (1, (1, (.t 44)))])⟩, ⟨none, (.store 2 (.t 6) (.t 45))⟩]
theorem uf58r13 : type_of% @f58r13.eq_1 := id @f58r13.eq_1
def f58b14 : AQ := (.seq (.region f58r13) .ret)
theorem uf58b14 (P ts os Q) : awl P f58b14 Q ts os = awl P (.seq (.region f58r13) .ret) Q ts os := id rfl
def f58b15 : AQ := (.cond (.t 40) f58b14 .skip)
theorem uf58b15 (P ts os Q) : awl P f58b15 Q ts os = awl P (.cond (.t 40) f58b14 .skip) Q ts os := id rfl
def f58r16 : List AI := [⟨none, (.bin 41 .eql (.t 7) (.v (.k (.c (.int .i64 12)))))⟩, ⟨none, (.mov 40 (.t 41))⟩]
theorem uf58r16 : type_of% @f58r16.eq_1 := id @f58r16.eq_1
def f58b17 : AQ := (.seq (.region f58r16) f58b15)
theorem uf58b17 (P ts os Q) : awl P f58b17 Q ts os = awl P (.seq (.region f58r16) f58b15) Q ts os := id rfl
def f58b18 : AQ := (.cond (.t 34) f58b12 f58b17)
theorem uf58b18 (P ts os Q) : awl P f58b18 Q ts os = awl P (.cond (.t 34) f58b12 f58b17) Q ts os := id rfl
def f58r19 : List AI := [⟨none, (.bin 35 .eql (.t 7) (.v (.k (.c (.int .i64 11)))))⟩, ⟨none, (.mov 34 (.t 35))⟩]
theorem uf58r19 : type_of% @f58r19.eq_1 := id @f58r19.eq_1
def f58b20 : AQ := (.seq (.region f58r19) f58b18)
theorem uf58b20 (P ts os Q) : awl P f58b20 Q ts os = awl P (.seq (.region f58r19) f58b18) Q ts os := id rfl
def f58b21 : AQ := (.cond (.t 27) f58b10 f58b20)
theorem uf58b21 (P ts os Q) : awl P f58b21 Q ts os = awl P (.cond (.t 27) f58b10 f58b20) Q ts os := id rfl
def f58r22 : List AI := [⟨none, (.bin 28 .eql (.t 7) (.v (.k (.c (.int .i64 10)))))⟩, ⟨none, (.mov 27 (.t 28))⟩]
theorem uf58r22 : type_of% @f58r22.eq_1 := id @f58r22.eq_1
def f58b23 : AQ := (.seq (.region f58r22) f58b21)
theorem uf58b23 (P ts os Q) : awl P f58b23 Q ts os = awl P (.seq (.region f58r22) f58b21) Q ts os := id rfl
def f58b24 : AQ := (.cond (.t 20) f58b8 f58b23)
theorem uf58b24 (P ts os Q) : awl P f58b24 Q ts os = awl P (.cond (.t 20) f58b8 f58b23) Q ts os := id rfl
def f58r25 : List AI := [⟨none, (.bin 21 .eql (.t 7) (.v (.k (.c (.int .i64 9)))))⟩, ⟨none, (.mov 20 (.t 21))⟩]
theorem uf58r25 : type_of% @f58r25.eq_1 := id @f58r25.eq_1
def f58b26 : AQ := (.seq (.region f58r25) f58b24)
theorem uf58b26 (P ts os Q) : awl P f58b26 Q ts os = awl P (.seq (.region f58r25) f58b24) Q ts os := id rfl
def f58b27 : AQ := (.cond (.t 14) f58b6 f58b26)
theorem uf58b27 (P ts os Q) : awl P f58b27 Q ts os = awl P (.cond (.t 14) f58b6 f58b26) Q ts os := id rfl
def f58r28 : List AI := [⟨none, (.bin 15 .eql (.t 7) (.v (.k (.c (.int .i64 8)))))⟩, ⟨none, (.mov 14 (.t 15))⟩]
theorem uf58r28 : type_of% @f58r28.eq_1 := id @f58r28.eq_1
def f58b29 : AQ := (.seq (.region f58r28) f58b27)
theorem uf58b29 (P ts os Q) : awl P f58b29 Q ts os = awl P (.seq (.region f58r28) f58b27) Q ts os := id rfl
def f58b30 : AQ := (.cond (.t 8) f58b4 f58b29)
theorem uf58b30 (P ts os Q) : awl P f58b30 Q ts os = awl P (.cond (.t 8) f58b4 f58b29) Q ts os := id rfl
def f58r31 : List AI := [⟨none, (.bin 9 .eql (.t 7) (.v (.k (.c (.int .i64 7)))))⟩, ⟨none, (.mov 8 (.t 9))⟩]
theorem uf58r31 : type_of% @f58r31.eq_1 := id @f58r31.eq_1
def f58b32 : AQ := (.seq (.region f58r31) f58b30)
theorem uf58b32 (P ts os Q) : awl P f58b32 Q ts os = awl P (.seq (.region f58r31) f58b30) Q ts os := id rfl
def f58b33 : AQ := (.block 0 f58b32)
theorem uf58b33 (P ts os Q) : awl P f58b33 Q ts os = awl P (.block 0 f58b32) Q ts os := id rfl
def f58r34 : List AI := [⟨none, (.mov 7 (.t 0))⟩]
theorem uf58r34 : type_of% @f58r34.eq_1 := id @f58r34.eq_1
def f58b35 : AQ := (.seq (.region f58r34) f58b33)
theorem uf58b35 (P ts os Q) : awl P f58b35 Q ts os = awl P (.seq (.region f58r34) f58b33) Q ts os := id rfl
def f58b36 : AQ := (.seq f58b35 f58b2)
theorem uf58b36 (P ts os Q) : awl P f58b36 Q ts os = awl P (.seq f58b35 f58b2) Q ts os := id rfl
def f58r37 : List AI := [⟨none, (.alloc 6 30 [(.bool false), (.int .i64 0)])⟩]
theorem uf58r37 : type_of% @f58r37.eq_1 := id @f58r37.eq_1
def f58b38 : AQ := (.seq (.region f58r37) f58b36)
theorem uf58b38 (P ts os Q) : awl P f58b38 Q ts os = awl P (.seq (.region f58r37) f58b36) Q ts os := id rfl
def f58 : AQ := f58b38
theorem uf58 (P ts os Q) : awl P f58 Q ts os = awl P f58b38 Q ts os := id rfl
theorem hf58 : cFunc Tryd.prog 58 = some ⟨50, f58.erase, [(RX.cell 6 2 true)]⟩ := by kernel_rfl
theorem okf58 : f58.ok = true := by kernel_rfl
def f61r1 : List AI := [⟨none, (.mov 38 (.t 4))⟩, ⟨none, (.mov 2 (.t 38))⟩, ⟨none, (.mov 3 (.v (.k (.c (.int .i64 0)))))⟩]
theorem uf61r1 : type_of% @f61r1.eq_1 := id @f61r1.eq_1
def f61b2 : AQ := (.seq (.region f61r1) .ret)
theorem uf61b2 (P ts os Q) : awl P f61b2 Q ts os = awl P (.seq (.region f61r1) .ret) Q ts os := id rfl
def f61r3 : List AI := [⟨none, (.mov 2 (.v (.k (.c (.int .i64 0)))))⟩, ⟨none, (.mov 3 (.v (.k (.c (.int .i64 10)))))⟩]
theorem uf61r3 : type_of% @f61r3.eq_1 := id @f61r3.eq_1
def f61b4 : AQ := (.seq (.region f61r3) .ret)
theorem uf61b4 (P ts os Q) : awl P f61b4 Q ts os = awl P (.seq (.region f61r3) .ret) Q ts os := id rfl
def f61b5 : AQ := (.cond (.t 37) f61b4 .skip)
theorem uf61b5 (P ts os Q) : awl P f61b5 Q ts os = awl P (.cond (.t 37) f61b4 .skip) Q ts os := id rfl
def f61r6 : List AI := [⟨none, (.mov 36 (.t 5))⟩, ⟨none, (.un 37 .not (.t 36))⟩]
theorem uf61r6 : type_of% @f61r6.eq_1 := id @f61r6.eq_1
def f61b7 : AQ := (.seq (.region f61r6) f61b5)
theorem uf61b7 (P ts os Q) : awl P f61b7 Q ts os = awl P (.seq (.region f61r6) f61b5) Q ts os := id rfl
def f61b8 : AQ := (.seq f61b7 f61b2)
theorem uf61b8 (P ts os Q) : awl P f61b8 Q ts os = awl P (.seq f61b7 f61b2) Q ts os := id rfl
def f61r9 : List AI := [⟨none, (.faddr 31 1 (.t 1))⟩, ⟨none, (.load 32 1 false (.t 31))⟩, ⟨none, (.call (some 33) 63 [(.t 32)])⟩, ⟨none, (.mov 30 (.t 33))⟩, ⟨none, (.extr 34 (.t 30) 0)⟩, ⟨none, (.extr 35 (.t 30) 1)⟩, ⟨none, (.mov 4 (.t 34))⟩, ⟨none, (.mov 5 (.t 35))⟩]
theorem uf61r9 : type_of% @f61r9.eq_1 := id @f61r9.eq_1
def f61b10 : AQ := (.seq (.region f61r9) f61b8)
theorem uf61b10 (P ts os Q) : awl P f61b10 Q ts os = awl P (.seq (.region f61r9) f61b8) Q ts os := id rfl
def f61r11 : List AI := [⟨none, (.mov 2 (.v (.k (.c (.int .i64 0)))))⟩, ⟨none, (.mov 3 (.v (.k (.c (.int .i64 0)))))⟩]
theorem uf61r11 : type_of% @f61r11.eq_1 := id @f61r11.eq_1
def f61b12 : AQ := (.seq (.region f61r11) .ret)
theorem uf61b12 (P ts os Q) : awl P f61b12 Q ts os = awl P (.seq (.region f61r11) .ret) Q ts os := id rfl
def f61r13 : List AI := [⟨none, (.mov 2 (.v (.k (.c (.int .i64 0)))))⟩, ⟨none, (.mov 3 (.v (.k (.c (.int .i64 3)))))⟩]
theorem uf61r13 : type_of% @f61r13.eq_1 := id @f61r13.eq_1
def f61b14 : AQ := (.seq (.region f61r13) .ret)
theorem uf61b14 (P ts os Q) : awl P f61b14 Q ts os = awl P (.seq (.region f61r13) .ret) Q ts os := id rfl
def f61b15 : AQ := (.cond (.t 19) f61b14 .skip)
theorem uf61b15 (P ts os Q) : awl P f61b15 Q ts os = awl P (.cond (.t 19) f61b14 .skip) Q ts os := id rfl
def f61r16 : List AI := [⟨none, (.faddr 14 1 (.t 1))⟩, ⟨none, (.load 15 1 false (.t 14))⟩, ⟨none, (.call (some 16) 65 [(.t 15)])⟩, ⟨none, (.faddr 17 1 (.t 1))⟩, ⟨none, (.load 18 1 false (.t 17))⟩, ⟨none, (.bin 19 .neq (.t 16) (.t 18))⟩]
theorem uf61r16 : type_of% @f61r16.eq_1 := id @f61r16.eq_1
def f61b17 : AQ := (.seq (.draw f61r16 [[], [0], [1], [], [3], [2, 4]]) f61b15)
theorem uf61b17 (P ts os Q) : awl P f61b17 Q ts os = awl P (.seq (.draw f61r16 [[], [0], [1], [], [3], [2, 4]]) f61b15) Q ts os := id rfl
def f61b18 : AQ := (.seq f61b17 f61b12)
theorem uf61b18 (P ts os Q) : awl P f61b18 Q ts os = awl P (.seq f61b17 f61b12) Q ts os := id rfl
def f61r19 : List AI := [⟨none, (.mov 2 (.v (.k (.c (.int .i64 1)))))⟩, ⟨none, (.mov 3 (.v (.k (.c (.int .i64 0)))))⟩]
theorem uf61r19 : type_of% @f61r19.eq_1 := id @f61r19.eq_1
def f61b20 : AQ := (.seq (.region f61r19) .ret)
theorem uf61b20 (P ts os Q) : awl P f61b20 Q ts os = awl P (.seq (.region f61r19) .ret) Q ts os := id rfl
def f61r21 : List AI := [⟨none, (.mov 2 (.v (.k (.c (.int .i64 0)))))⟩, ⟨none, (.mov 3 (.v (.k (.c (.int .i64 3)))))⟩]
theorem uf61r21 : type_of% @f61r21.eq_1 := id @f61r21.eq_1
def f61b22 : AQ := (.seq (.region f61r21) .ret)
theorem uf61b22 (P ts os Q) : awl P f61b22 Q ts os = awl P (.seq (.region f61r21) .ret) Q ts os := id rfl
def f61b23 : AQ := (.cond (.t 29) f61b22 .skip)
theorem uf61b23 (P ts os Q) : awl P f61b23 Q ts os = awl P (.cond (.t 29) f61b22 .skip) Q ts os := id rfl
def f61r24 : List AI := [⟨none, (.faddr 22 1 (.t 1))⟩, ⟨none, (.load 23 1 false (.t 22))⟩, ⟨none, (.bin 24 .lss (.t 23) (.v (.k (.c (.int .i64 0)))))⟩, ⟨none, (.mov 25 (.t 24))⟩, ⟨(some (25, false)), (.faddr 26 1 (.t 1))⟩, ⟨(some (25, false)), (.load 27 1 false (.t 26))⟩, ⟨(some (25, false)), (.bin 28 .gtr (.t 27) (.v (.k (.c (.int .i64 1)))))⟩, ⟨none, (.pick 29 (.t 25) (.v (.k (.c (.bool true)))) (.t 28))⟩]
theorem uf61r24 : type_of% @f61r24.eq_1 := id @f61r24.eq_1
def f61b25 : AQ := (.seq (.region f61r24) f61b23)
theorem uf61b25 (P ts os Q) : awl P f61b25 Q ts os = awl P (.seq (.region f61r24) f61b23) Q ts os := id rfl
def f61b26 : AQ := (.seq f61b25 f61b20)
theorem uf61b26 (P ts os Q) : awl P f61b26 Q ts os = awl P (.seq f61b25 f61b20) Q ts os := id rfl
def f61b27 : AQ := (.cond (.t 20) f61b26 .skip)
theorem uf61b27 (P ts os Q) : awl P f61b27 Q ts os = awl P (.cond (.t 20) f61b26 .skip) Q ts os := id rfl
def f61r28 : List AI := [⟨none, (.bin 21 .eql (.t 11) (.v (.k (.c (.int .i64 1)))))⟩, ⟨none, (.mov 20 (.t 21))⟩]
theorem uf61r28 : type_of% @f61r28.eq_1 := id @f61r28.eq_1
def f61b29 : AQ := (.seq (.region f61r28) f61b27)
theorem uf61b29 (P ts os Q) : awl P f61b29 Q ts os = awl P (.seq (.region f61r28) f61b27) Q ts os := id rfl
def f61b30 : AQ := (.cond (.t 12) f61b18 f61b29)
theorem uf61b30 (P ts os Q) : awl P f61b30 Q ts os = awl P (.cond (.t 12) f61b18 f61b29) Q ts os := id rfl
def f61r31 : List AI := [⟨none, (.bin 13 .eql (.t 11) (.v (.k (.c (.int .i64 0)))))⟩, ⟨none, (.mov 12 (.t 13))⟩]
theorem uf61r31 : type_of% @f61r31.eq_1 := id @f61r31.eq_1
def f61b32 : AQ := (.seq (.region f61r31) f61b30)
theorem uf61b32 (P ts os Q) : awl P f61b32 Q ts os = awl P (.seq (.region f61r31) f61b30) Q ts os := id rfl
def f61b33 : AQ := (.block 0 f61b32)
theorem uf61b33 (P ts os Q) : awl P f61b33 Q ts os = awl P (.block 0 f61b32) Q ts os := id rfl
def f61r34 : List AI := [⟨none, (.faddr 10 0 (.t 1))⟩, ⟨none, (.load 11 1 false (.t 10))⟩]
theorem uf61r34 : type_of% @f61r34.eq_1 := id @f61r34.eq_1
def f61b35 : AQ := (.seq (.region f61r34) f61b33)
theorem uf61b35 (P ts os Q) : awl P f61b35 Q ts os = awl P (.seq (.region f61r34) f61b33) Q ts os := id rfl
def f61b36 : AQ := (.seq f61b35 f61b10)
theorem uf61b36 (P ts os Q) : awl P f61b36 Q ts os = awl P (.seq f61b35 f61b10) Q ts os := id rfl
def f61r37 : List AI := [⟨none, (.mov 2 (.v (.k (.c (.int .i64 0)))))⟩, ⟨none, (.mov 3 (.v (.k (.c (.int .i64 2)))))⟩]
theorem uf61r37 : type_of% @f61r37.eq_1 := id @f61r37.eq_1
def f61b38 : AQ := (.seq (.region f61r37) .ret)
theorem uf61b38 (P ts os Q) : awl P f61b38 Q ts os = awl P (.seq (.region f61r37) .ret) Q ts os := id rfl
def f61b39 : AQ := (.cond (.t 9) f61b38 .skip)
theorem uf61b39 (P ts os Q) : awl P f61b39 Q ts os = awl P (.cond (.t 9) f61b38 .skip) Q ts os := id rfl
def f61r40 : List AI := [⟨none, (.faddr 6 2 (.t 1))⟩, ⟨none, (.load 7 1 false (.t 6))⟩, ⟨none, (.len 8 (.t 7))⟩, ⟨none, (.bin 9 .gtr (.t 8) (.v (.k (.c (.int .i64 0)))))⟩]
theorem uf61r40 : type_of% @f61r40.eq_1 := id @f61r40.eq_1
def f61b41 : AQ := (.seq (.region f61r40) f61b39)
theorem uf61b41 (P ts os Q) : awl P f61b41 Q ts os = awl P (.seq (.region f61r40) f61b39) Q ts os := id rfl
def f61b42 : AQ := (.seq f61b41 f61b36)
theorem uf61b42 (P ts os Q) : awl P f61b42 Q ts os = awl P (.seq f61b41 f61b36) Q ts os := id rfl
def f61r43 : List AI := [⟨none, (.box 1 50 (.t 0))⟩, ⟨none, (.mov 2 (.v (.k (.c (.int .i64 0)))))⟩, ⟨none, (.mov 3 (.v (.k (.c (.int .i64 0)))))⟩]
theorem uf61r43 : type_of% @f61r43.eq_1 := id @f61r43.eq_1
def f61b44 : AQ := (.seq (.region f61r43) f61b42)
theorem uf61b44 (P ts os Q) : awl P f61b44 Q ts os = awl P (.seq (.region f61r43) f61b42) Q ts os := id rfl
def f61 : AQ := f61b44
theorem uf61 (P ts os Q) : awl P f61 Q ts os = awl P f61b44 Q ts os := id rfl
theorem hf61 : cFunc Tryd.prog 61 = some ⟨39, f61.erase, [(RX.t 2), (RX.t 3)]⟩ := by kernel_rfl
theorem okf61 : f61.ok = true := by kernel_rfl
def f62r1 : List AI := [⟨none, (.bslice 25 3 1 [(.int .i64 0)] 2 [(0, (.v (.k (.c (.int .i64 0))))), (1, (.v (.k (.c (.int .i64 0)))))])⟩, ⟨none, (.build 26 [(.list 0 (some true) []), (.int .i64 0)] [(0, (1, (.t 25))), (1, (1, (.v (.k (.c (.int .i64 0))))))])⟩, ⟨none, (.store 2 (.t 2) (.t 26))⟩]
theorem uf62r1 : type_of% @f62r1.eq_1 := id @f62r1.eq_1
def f62b2 : AQ := (.seq (.region f62r1) .ret)
theorem uf62b2 (P ts os Q) : awl P f62b2 Q ts os = awl P (.seq (.region f62r1) .ret) Q ts os := id rfl
def f62r3 : List AI := [⟨none, (.bslice 6 3 1 [(.int .i64 0)] 1 [(0, (.v (.k (.c (.int .i64 1)))))])⟩, ⟨none, (.build 7 [(.list 0 (some true) []), (.int .i64 0)] [(0, (1, (.t 6))), (1, (1, (.v (.k (.c (.int .i64 1))))))])⟩, ⟨none, (.store 2 (.t 2) (.t 7))⟩]
theorem uf62r3 : type_of% @f62r3.eq_1 := id @f62r3.eq_1
def f62b4 : AQ := (.seq (.region f62r3) .ret)
theorem uf62b4 (P ts os Q) : awl P f62b4 Q ts os = awl P (.seq (.region f62r3) .ret) Q ts os := id rfl
def f62r5 : List AI := [⟨none, (.bslice 11 3 1 [(.int .i64 0)] 2 [(0, (.v (.k (.c (.int .i64 1))))), (1, (.v (.k (.c (.int .i64 1)))))])⟩, ⟨none, (.build 12 [(.list 0 (some true) []), (.int .i64 0)] [(0, (1, (.t 11))), (1, (1, (.v (.k (.c (.int .i64 1))))))])⟩, ⟨none, (.store 2 (.t 2) (.t 12))⟩]
theorem uf62r5 : type_of% @f62r5.eq_1 := id @f62r5.eq_1
def f62b6 : AQ := (.seq (.region f62r5) .ret)
theorem uf62b6 (P ts os Q) : awl P f62b6 Q ts os = awl P (.seq (.region f62r5) .ret) Q ts os := id rfl
def f62r7 : List AI := [⟨none, (.bslice 15 3 1 [(.int .i64 0)] 3 [(0, (.v (.k (.c (.int .i64 1))))), (1, (.v (.k (.c (.int .i64 (-1)))))), (2, (.v (.k (.c (.int .i64 (-1))))))])⟩, (AI.mk none (.build 16 [(.list 0 (some true) []), (.int .i64 0)] [(0, (1, (.t 15))), (1, (1, (.v (.k (.c (.int .i64 (-1)))))))])), ⟨none, (.store 2 (.t 2) (.t 16))⟩]
theorem uf62r7 : type_of% @f62r7.eq_1 := id @f62r7.eq_1
def f62b8 : AQ := (.seq (.region f62r7) .ret)
theorem uf62b8 (P ts os Q) : awl P f62b8 Q ts os = awl P (.seq (.region f62r7) .ret) Q ts os := id rfl
def f62r9 : List AI := [⟨none, (.bslice 19 3 1 [(.int .i64 0)] 2 [(0, (.v (.k (.c (.int .i64 0))))), (1, (.v (.k (.c (.int .i64 0)))))])⟩, ⟨none, (.build 20 [(.list 0 (some true) []), (.int .i64 0)] [(0, (1, (.t 19))), (1, (1, (.v (.k (.c (.int .i64 1))))))])⟩, ⟨none, (.store 2 (.t 2) (.t 20))⟩]
theorem uf62r9 : type_of% @f62r9.eq_1 := id @f62r9.eq_1
def f62b10 : AQ := (.seq (.region f62r9) .ret)
theorem uf62b10 (P ts os Q) : awl P f62b10 Q ts os = awl P (.seq (.region f62r9) .ret) Q ts os := id rfl
def f62r11 : List AI := [⟨none, (.bslice 23 3 1 [(.int .i64 0)] 2 [(0, (.v (.k (.c (.int .i64 (-1)))))), (1, (.v (.k (.c (.int .i64 (-1))))))])⟩, ⟨none, (.build 24 [(.list 0 (some true) []), (.int .i64 0)] [(0, (1, (.t 23))), (1, (1, (.v (.k (.c (.int .i64 1))))))])⟩, ⟨none, (.store 2 (.t 2) (.t 24))⟩]
theorem uf62r11 : type_of% @f62r11.eq_1 := id @f62r11.eq_1
def f62b12 : AQ := (.seq (.region f62r11) .ret)
theorem uf62b12 (P ts os Q) : awl P f62b12 Q ts os = awl P (.seq (.region f62r11) .ret) Q ts os := id rfl
def f62b13 : AQ := (.cond (.t 21) f62b12 .skip)
theorem uf62b13 (P ts os Q) : awl P f62b13 Q ts os = awl P (.cond (.t 21) f62b12 .skip) Q ts os := id rfl
def f62r14 : List AI := [⟨none, (.bin 22 .eql (.t 3) (.v (.k (.c (.int .i64 8)))))⟩, ⟨none, (.mov 21 (.t 22))⟩]
theorem uf62r14 : type_of% @f62r14.eq_1 := id @f62r14.eq_1
def f62b15 : AQ := (.seq (.region f62r14) f62b13)
theorem uf62b15 (P ts os Q) : awl P f62b15 Q ts os = awl P (.seq (.region f62r14) f62b13) Q ts os := id rfl
def f62b16 : AQ := (.cond (.t 17) f62b10 f62b15)
theorem uf62b16 (P ts os Q) : awl P f62b16 Q ts os = awl P (.cond (.t 17) f62b10 f62b15) Q ts os := id rfl
def f62r17 : List AI := [⟨none, (.bin 18 .eql (.t 3) (.v (.k (.c (.int .i64 7)))))⟩, ⟨none, (.mov 17 (.t 18))⟩]
theorem uf62r17 : type_of% @f62r17.eq_1 := id @f62r17.eq_1
def f62b18 : AQ := (.seq (.region f62r17) f62b16)
theorem uf62b18 (P ts os Q) : awl P f62b18 Q ts os = awl P (.seq (.region f62r17) f62b16) Q ts os := id rfl
def f62b19 : AQ := (.cond (.t 13) f62b8 f62b18)
theorem uf62b19 (P ts os Q) : awl P f62b19 Q ts os = awl P (.cond (.t 13) f62b8 f62b18) Q ts os := id rfl
def f62r20 : List AI := [⟨none, (.bin 14 .eql (.t 3) (.v (.k (.c (.int .i64 6)))))⟩, ⟨none, (.mov 13 (.t 14))⟩]
theorem uf62r20 : type_of% @f62r20.eq_1 := id @f62r20.eq_1
def f62b21 : AQ := (.seq (.region f62r20) f62b19)
theorem uf62b21 (P ts os Q) : awl P f62b21 Q ts os = awl P (.seq (.region f62r20) f62b19) Q ts os := id rfl
def f62b22 : AQ := (.cond (.t 8) f62b6 f62b21)
theorem uf62b22 (P ts os Q) : awl P f62b22 Q ts os = awl P (.cond (.t 8) f62b6 f62b21) Q ts os := id rfl
def f62r23 : List AI := [⟨none, (.bin 10 .eql (.t 3) (.v (.k (.c (.int .i64 5)))))⟩, ⟨none, (.mov 8 (.t 10))⟩]
theorem uf62r23 : type_of% @f62r23.eq_1 := id @f62r23.eq_1
def f62b24 : AQ := (.cond (.t 8) .skip (.region f62r23))
theorem uf62b24 (P ts os Q) : awl P f62b24 Q ts os = awl P (.cond (.t 8) .skip (.region f62r23)) Q ts os := id rfl
def f62r25 : List AI := [⟨none, (.bin 9 .eql (.t 3) (.v (.k (.c (.int .i64 4)))))⟩, ⟨none, (.mov 8 (.t 9))⟩]
theorem uf62r25 : type_of% @f62r25.eq_1 := id @f62r25.eq_1
def f62b26 : AQ := (.seq (.region f62r25) f62b24)
theorem uf62b26 (P ts os Q) : awl P f62b26 Q ts os = awl P (.seq (.region f62r25) f62b24) Q ts os := id rfl
def f62b27 : AQ := (.seq f62b26 f62b22)
theorem uf62b27 (P ts os Q) : awl P f62b27 Q ts os = awl P (.seq f62b26 f62b22) Q ts os := id rfl
def f62b28 : AQ := (.cond (.t 4) f62b4 f62b27)
theorem uf62b28 (P ts os Q) : awl P f62b28 Q ts os = awl P (.cond (.t 4) f62b4 f62b27) Q ts os := id rfl
def f62r29 : List AI := [⟨none, (.bin 5 .eql (.t 3) (.v (.k (.c (.int .i64 3)))))⟩, ⟨none, (.mov 4 (.t 5))⟩]
theorem uf62r29 : type_of% @f62r29.eq_1 := id @f62r29.eq_1
def f62b30 : AQ := (.seq (.region f62r29) f62b28)
theorem uf62b30 (P ts os Q) : awl P f62b30 Q ts os = awl P (.seq (.region f62r29) f62b28) Q ts os := id rfl
def f62b31 : AQ := (.block 0 f62b30)
theorem uf62b31 (P ts os Q) : awl P f62b31 Q ts os = awl P (.block 0 f62b30) Q ts os := id rfl
def f62r32 : List AI := [⟨none, (.mov 3 (.t 0))⟩]
theorem uf62r32 : type_of% @f62r32.eq_1 := id @f62r32.eq_1
def f62b33 : AQ := (.seq (.region f62r32) f62b31)
theorem uf62b33 (P ts os Q) : awl P f62b33 Q ts os = awl P (.seq (.region f62r32) f62b31) Q ts os := id rfl
def f62b34 : AQ := (.seq f62b33 f62b2)
theorem uf62b34 (P ts os Q) : awl P f62b34 Q ts os = awl P (.seq f62b33 f62b2) Q ts os := id rfl
def f62r35 : List AI := [⟨none, (.alloc 2 93 [(.list 0 (some true) []), (.int .i64 0)])⟩]
theorem uf62r35 : type_of% @f62r35.eq_1 := id @f62r35.eq_1
def f62b36 : AQ := (.seq (.region f62r35) f62b34)
theorem uf62b36 (P ts os Q) : awl P f62b36 Q ts os = awl P (.seq (.region f62r35) f62b34) Q ts os := id rfl
def f62 : AQ := f62b36
theorem uf62 (P ts os Q) : awl P f62 Q ts os = awl P f62b36 Q ts os := id rfl
theorem hf62 : cFunc Tryd.prog 62 = some ⟨27, f62.erase, [(RX.cell 2 2 true)]⟩ := by kernel_rfl
theorem okf62 : f62.ok = true := by kernel_rfl
def f63r1 : List AI := [⟨none, (.mov 2 (.v (.k (.c (.int .i64 1)))))⟩, ⟨none, (.mov 3 (.v (.k (.c (.bool true)))))⟩]
theorem uf63r1 : type_of% @f63r1.eq_1 := id @f63r1.eq_1
def f63b2 : AQ := (.seq (.region f63r1) .ret)
theorem uf63b2 (P ts os Q) : awl P f63b2 Q ts os = awl P (.seq (.region f63r1) .ret) Q ts os := id rfl
def f63r3 : List AI := [⟨none, (.mov 2 (.v (.k (.c (.int .i64 0)))))⟩, ⟨none, (.mov 3 (.v (.k (.c (.bool false)))))⟩]
theorem uf63r3 : type_of% @f63r3.eq_1 := id @f63r3.eq_1
def f63b4 : AQ := (.seq (.region f63r3) .ret)
theorem uf63b4 (P ts os Q) : awl P f63b4 Q ts os = awl P (.seq (.region f63r3) .ret) Q ts os := id rfl
def f63r5 : List AI := [⟨none, (.mov 2 (.v (.k (.c (.int .i64 0)))))⟩, ⟨none, (.mov 3 (.v (.k (.c (.bool true)))))⟩]
theorem uf63r5 : type_of% @f63r5.eq_1 := id @f63r5.eq_1
def f63b6 : AQ := (.seq (.region f63r5) .ret)
theorem uf63b6 (P ts os Q) : awl P f63b6 Q ts os = awl P (.seq (.region f63r5) .ret) Q ts os := id rfl
def f63b7 : AQ := (.cond (.t 11) f63b6 .skip)
theorem uf63b7 (P ts os Q) : awl P f63b7 Q ts os = awl P (.cond (.t 11) f63b6 .skip) Q ts os := id rfl
def f63r8 : List AI := [⟨none, (.mov 12 (.t 0))⟩, ⟨none, (.bin 13 .lss (.t 12) (.v (.k (.c (.int .i64 7)))))⟩, ⟨none, (.mov 11 (.t 13))⟩]
theorem uf63r8 : type_of% @f63r8.eq_1 := id @f63r8.eq_1
def f63b9 : AQ := (.seq (.region f63r8) f63b7)
theorem uf63b9 (P ts os Q) : awl P f63b9 Q ts os = awl P (.seq (.region f63r8) f63b7) Q ts os := id rfl
def f63b10 : AQ := (.cond (.t 4) f63b4 f63b9)
theorem uf63b10 (P ts os Q) : awl P f63b10 Q ts os = awl P (.cond (.t 4) f63b4 f63b9) Q ts os := id rfl
def f63r11 : List AI := [⟨none, (.mov 5 (.t 0))⟩, ⟨none, (.bin 6 .lss (.t 5) (.v (.k (.c (.int .i64 0)))))⟩, ⟨none, (.mov 7 (.t 6))⟩, ⟨(some (7, false)), (.mov 8 (.t 0))⟩, ⟨(some (7, false)), (.bin 9 .gtr (.t 8) (.v (.k (.c (.int .i64 19)))))⟩, ⟨none, (.pick 10 (.t 7) (.v (.k (.c (.bool true)))) (.t 9))⟩, ⟨none, (.mov 4 (.t 10))⟩]
theorem uf63r11 : type_of% @f63r11.eq_1 := id @f63r11.eq_1
def f63b12 : AQ := (.seq (.region f63r11) f63b10)
theorem uf63b12 (P ts os Q) : awl P f63b12 Q ts os = awl P (.seq (.region f63r11) f63b10) Q ts os := id rfl
def f63b13 : AQ := (.block 0 f63b12)
theorem uf63b13 (P ts os Q) : awl P f63b13 Q ts os = awl P (.block 0 f63b12) Q ts os := id rfl
def f63b14 : AQ := (.seq f63b13 f63b2)
theorem uf63b14 (P ts os Q) : awl P f63b14 Q ts os = awl P (.seq f63b13 f63b2) Q ts os := id rfl
def f63r15 : List AI := [⟨none, (.mov 2 (.v (.k (.c (.int .i64 0)))))⟩, ⟨none, (.mov 3 (.v (.k (.c (.bool false)))))⟩]
theorem uf63r15 : type_of% @f63r15.eq_1 := id @f63r15.eq_1
def f63b16 : AQ := (.seq (.region f63r15) f63b14)
theorem uf63b16 (P ts os Q) : awl P f63b16 Q ts os = awl P (.seq (.region f63r15) f63b14) Q ts os := id rfl
def f63 : AQ := f63b16
theorem uf63 (P ts os Q) : awl P f63 Q ts os = awl P f63b16 Q ts os := id rfl
theorem hf63 : cFunc Tryd.prog 63 = some ⟨14, f63.erase, [(RX.t 2), (RX.t 3)]⟩ := by kernel_rfl
theorem okf63 : f63.ok = true := by kernel_rfl
def f64r1 : List AI := [⟨none, (.build 5 [(.bool false), (.int .i64 0)] [(0, (1, (.v (.k (.c (.bool true))))))])⟩, ⟨none, (.store 2 (.t 2) (.t 5))⟩]
theorem uf64r1 : type_of% @f64r1.eq_1 := id @f64r1.eq_1
def f64b2 : AQ := (.seq (.region f64r1) .ret)
theorem uf64b2 (P ts os Q) : awl P f64b2 Q ts os = awl P (.seq (.region f64r1) .ret) Q ts os := id rfl
def f64r3 : List AI := [⟨none, (.build 4 [(.bool false), (.int .i64 0)] [(0, (1, (.v (.k (.c (.bool true)))))), (1, (1, (.v (.k (.c (.int .i64 1))))))])⟩, ⟨none, (.store 2 (.t 2) (.t 4))⟩]
theorem uf64r3 : type_of% @f64r3.eq_1 := id @f64r3.eq_1
def f64b4 : AQ := (.seq (.region f64r3) .ret)
theorem uf64b4 (P ts os Q) : awl P f64b4 Q ts os = awl P (.seq (.region f64r3) .ret) Q ts os := id rfl
def f64b5 : AQ := (.cond (.t 3) f64b4 .skip)
theorem uf64b5 (P ts os Q) : awl P f64b5 Q ts os = awl P (.cond (.t 3) f64b4 .skip) Q ts os := id rfl
def f64r6 : List AI := [⟨none, (.mov 3 (.t 0))⟩]
theorem uf64r6 : type_of% @f64r6.eq_1 := id @f64r6.eq_1
def f64b7 : AQ := (.seq (.region f64r6) f64b5)
theorem uf64b7 (P ts os Q) : awl P f64b7 Q ts os = awl P (.seq (.region f64r6) f64b5) Q ts os := id rfl
def f64b8 : AQ := (.seq f64b7 f64b2)
theorem uf64b8 (P ts os Q) : awl P f64b8 Q ts os = awl P (.seq f64b7 f64b2) Q ts os := id rfl
def f64r9 : List AI := [⟨none, (.alloc 2 30 [(.bool false), (.int .i64 0)])⟩]
theorem uf64r9 : type_of% @f64r9.eq_1 := id @f64r9.eq_1
def f64b10 : AQ := (.seq (.region f64r9) f64b8)
theorem uf64b10 (P ts os Q) : awl P f64b10 Q ts os = awl P (.seq (.region f64r9) f64b8) Q ts os := id rfl
def f64 : AQ := f64b10
theorem uf64 (P ts os Q) : awl P f64 Q ts os = awl P f64b10 Q ts os := id rfl
theorem hf64 : cFunc Tryd.prog 64 = some ⟨6, f64.erase, [(RX.cell 2 2 true)]⟩ := by kernel_rfl
theorem okf64 : f64.ok = true := by kernel_rfl
def f65r1 : List AI := [⟨none, (.mov 3 (.t 0))⟩, ⟨none, (.minmax 4 true (.t 3) [(.v (.k (.c (.int .i64 (-1099511627776)))))])⟩, ⟨none, (.minmax 5 false (.t 4) [(.v (.k (.c (.int .i64 1099511627776))))])⟩, ⟨none, (.mov 2 (.t 5))⟩]
theorem uf65r1 : type_of% @f65r1.eq_1 := id @f65r1.eq_1
def f65b2 : AQ := (.seq (.region f65r1) .ret)
theorem uf65b2 (P ts os Q) : awl P f65b2 Q ts os = awl P (.seq (.region f65r1) .ret) Q ts os := id rfl
def f65r3 : List AI := [⟨none, (.mov 2 (.v (.k (.c (.int .i64 0)))))⟩]
theorem uf65r3 : type_of% @f65r3.eq_1 := id @f65r3.eq_1
def f65b4 : AQ := (.seq (.region f65r3) f65b2)
theorem uf65b4 (P ts os Q) : awl P f65b4 Q ts os = awl P (.seq (.region f65r3) f65b2) Q ts os := id rfl
def f65 : AQ := f65b4
theorem uf65 (P ts os Q) : awl P f65 Q ts os = awl P f65b4 Q ts os := id rfl
theorem hf65 : cFunc Tryd.prog 65 = some ⟨6, f65.erase, [(RX.t 2)]⟩ := by kernel_rfl
theorem okf65 : f65.ok = true := by kernel_rfl
def f66r1 : List AI := [⟨none, (.mov 30 (.t 1))⟩, ⟨none, (.mov 31 (.t 2))⟩, ⟨none, (.minmax 32 true (.t 30) [(.t 31)])⟩, ⟨none, (.mov 6 (.t 32))⟩]
theorem uf66r1 : type_of% @f66r1.eq_1 := id @f66r1.eq_1
def f66b2 : AQ := (.seq (.region f66r1) .ret)
theorem uf66b2 (P ts os Q) : awl P f66b2 Q ts os = awl P (.seq (.region f66r1) .ret) Q ts os := id rfl
def f66r3 : List AI := [⟨none, (.mov 10 (.t 1))⟩, ⟨none, (.mov 11 (.t 2))⟩, ⟨none, (.bin 12 .add (.t 10) (.t 11))⟩, ⟨none, (.call (some 13) 65 [(.t 12)])⟩, ⟨none, (.mov 6 (.t 13))⟩]
theorem uf66r3 : type_of% @f66r3.eq_1 := id @f66r3.eq_1
def f66b4 : AQ := (.seq (.region f66r3) .ret)
theorem uf66b4 (P ts os Q) : awl P f66b4 Q ts os = awl P (.seq (.region f66r3) .ret) Q ts os := id rfl
def f66r5 : List AI := [⟨none, (.mov 16 (.t 1))⟩, ⟨none, (.mov 17 (.t 2))⟩, ⟨none, (.bin 18 .sub (.t 16) (.t 17))⟩, ⟨none, (.call (some 19) 65 [(.t 18)])⟩, ⟨none, (.mov 6 (.t 19))⟩]
theorem uf66r5 : type_of% @f66r5.eq_1 := id @f66r5.eq_1
def f66b6 : AQ := (.seq (.region f66r5) .ret)
theorem uf66b6 (P ts os Q) : awl P f66b6 Q ts os = awl P (.seq (.region f66r5) .ret) Q ts os := id rfl
def f66r7 : List AI := [⟨none, (.mov 22 (.t 1))⟩, ⟨none, (.mov 23 (.t 2))⟩, ⟨none, (.call (some 24) 86 [(.t 22), (.t 23)])⟩, ⟨none, (.mov 6 (.t 24))⟩]
theorem uf66r7 : type_of% @f66r7.eq_1 := id @f66r7.eq_1
def f66b8 : AQ := (.seq (.region f66r7) .ret)
theorem uf66b8 (P ts os Q) : awl P f66b8 Q ts os = awl P (.seq (.region f66r7) .ret) Q ts os := id rfl
def f66r9 : List AI := [⟨none, (.mov 27 (.t 1))⟩, ⟨none, (.mov 28 (.t 2))⟩, ⟨none, (.minmax 29 false (.t 27) [(.t 28)])⟩, ⟨none, (.mov 6 (.t 29))⟩]
theorem uf66r9 : type_of% @f66r9.eq_1 := id @f66r9.eq_1
def f66b10 : AQ := (.seq (.region f66r9) .ret)
theorem uf66b10 (P ts os Q) : awl P f66b10 Q ts os = awl P (.seq (.region f66r9) .ret) Q ts os := id rfl
def f66b11 : AQ := (.cond (.t 25) f66b10 .skip)
theorem uf66b11 (P ts os Q) : awl P f66b11 Q ts os = awl P (.cond (.t 25) f66b10 .skip) Q ts os := id rfl
def f66r12 : List AI := [⟨none, (.bin 26 .eql (.t 7) (.v (.k (.c (.int .i64 12)))))⟩, ⟨none, (.mov 25 (.t 26))⟩]
theorem uf66r12 : type_of% @f66r12.eq_1 := id @f66r12.eq_1
def f66b13 : AQ := (.seq (.region f66r12) f66b11)
theorem uf66b13 (P ts os Q) : awl P f66b13 Q ts os = awl P (.seq (.region f66r12) f66b11) Q ts os := id rfl
def f66b14 : AQ := (.cond (.t 20) f66b8 f66b13)
theorem uf66b14 (P ts os Q) : awl P f66b14 Q ts os = awl P (.cond (.t 20) f66b8 f66b13) Q ts os := id rfl
def f66r15 : List AI := [⟨none, (.bin 21 .eql (.t 7) (.v (.k (.c (.int .i64 11)))))⟩, ⟨none, (.mov 20 (.t 21))⟩]
theorem uf66r15 : type_of% @f66r15.eq_1 := id @f66r15.eq_1
def f66b16 : AQ := (.seq (.region f66r15) f66b14)
theorem uf66b16 (P ts os Q) : awl P f66b16 Q ts os = awl P (.seq (.region f66r15) f66b14) Q ts os := id rfl
def f66b17 : AQ := (.cond (.t 14) f66b6 f66b16)
theorem uf66b17 (P ts os Q) : awl P f66b17 Q ts os = awl P (.cond (.t 14) f66b6 f66b16) Q ts os := id rfl
def f66r18 : List AI := [⟨none, (.bin 15 .eql (.t 7) (.v (.k (.c (.int .i64 10)))))⟩, ⟨none, (.mov 14 (.t 15))⟩]
theorem uf66r18 : type_of% @f66r18.eq_1 := id @f66r18.eq_1
def f66b19 : AQ := (.seq (.region f66r18) f66b17)
theorem uf66b19 (P ts os Q) : awl P f66b19 Q ts os = awl P (.seq (.region f66r18) f66b17) Q ts os := id rfl
def f66b20 : AQ := (.cond (.t 8) f66b4 f66b19)
theorem uf66b20 (P ts os Q) : awl P f66b20 Q ts os = awl P (.cond (.t 8) f66b4 f66b19) Q ts os := id rfl
def f66r21 : List AI := [⟨none, (.bin 9 .eql (.t 7) (.v (.k (.c (.int .i64 9)))))⟩, ⟨none, (.mov 8 (.t 9))⟩]
theorem uf66r21 : type_of% @f66r21.eq_1 := id @f66r21.eq_1
def f66b22 : AQ := (.seq (.region f66r21) f66b20)
theorem uf66b22 (P ts os Q) : awl P f66b22 Q ts os = awl P (.seq (.region f66r21) f66b20) Q ts os := id rfl
def f66b23 : AQ := (.block 0 f66b22)
theorem uf66b23 (P ts os Q) : awl P f66b23 Q ts os = awl P (.block 0 f66b22) Q ts os := id rfl
def f66r24 : List AI := [⟨none, (.mov 7 (.t 0))⟩]
theorem uf66r24 : type_of% @f66r24.eq_1 := id @f66r24.eq_1
def f66b25 : AQ := (.seq (.region f66r24) f66b23)
theorem uf66b25 (P ts os Q) : awl P f66b25 Q ts os = awl P (.seq (.region f66r24) f66b23) Q ts os := id rfl
def f66b26 : AQ := (.seq f66b25 f66b2)
theorem uf66b26 (P ts os Q) : awl P f66b26 Q ts os = awl P (.seq f66b25 f66b2) Q ts os := id rfl
def f66r27 : List AI := [⟨none, (.mov 6 (.v (.k (.c (.int .i64 0)))))⟩]
theorem uf66r27 : type_of% @f66r27.eq_1 := id @f66r27.eq_1
def f66b28 : AQ := (.seq (.region f66r27) f66b26)
theorem uf66b28 (P ts os Q) : awl P f66b28 Q ts os = awl P (.seq (.region f66r27) f66b26) Q ts os := id rfl
def f66 : AQ := f66b28
theorem uf66 (P ts os Q) : awl P f66 Q ts os = awl P f66b28 Q ts os := id rfl
theorem hf66 : cFunc Tryd.prog 66 = some ⟨33, f66.erase, [(RX.t 6)]⟩ := by kernel_rfl
theorem okf66 : f66.ok = true := by kernel_rfl
def f68r1 : List AI := [⟨none, (.mov 2 (.v (.k (.c (.int .i64 2)))))⟩]
theorem uf68r1 : type_of% @f68r1.eq_1 := id @f68r1.eq_1
def f68b2 : AQ := (.seq (.region f68r1) .ret)
theorem uf68b2 (P ts os Q) : awl P f68b2 Q ts os = awl P (.seq (.region f68r1) .ret) Q ts os := id rfl
def f68r3 : List AI := [⟨none, (.mov 2 (.v (.k (.c (.int .i64 0)))))⟩]
theorem uf68r3 : type_of% @f68r3.eq_1 := id @f68r3.eq_1
def f68b4 : AQ := (.seq (.region f68r3) .ret)
theorem uf68b4 (P ts os Q) : awl P f68b4 Q ts os = awl P (.seq (.region f68r3) .ret) Q ts os := id rfl
def f68r5 : List AI := [⟨none, (.mov 2 (.v (.k (.c (.int .i64 1)))))⟩]
theorem uf68r5 : type_of% @f68r5.eq_1 := id @f68r5.eq_1
def f68b6 : AQ := (.seq (.region f68r5) .ret)
theorem uf68b6 (P ts os Q) : awl P f68b6 Q ts os = awl P (.seq (.region f68r5) .ret) Q ts os := id rfl
def f68r7 : List AI := [⟨none, (.mov 2 (.v (.k (.c (.int .i64 3)))))⟩]
theorem uf68r7 : type_of% @f68r7.eq_1 := id @f68r7.eq_1
def f68b8 : AQ := (.seq (.region f68r7) .ret)
theorem uf68b8 (P ts os Q) : awl P f68b8 Q ts os = awl P (.seq (.region f68r7) .ret) Q ts os := id rfl
def f68b9 : AQ := (.cond (.t 10) f68b8 .skip)
theorem uf68b9 (P ts os Q) : awl P f68b9 Q ts os = awl P (.cond (.t 10) f68b8 .skip) Q ts os := id rfl
def f68r10 : List AI := [⟨none, (.bin 11 .eql (.t 3) (.v (.k (.c (.int .i64 6)))))⟩, ⟨none, (.mov 10 (.t 11))⟩]
theorem uf68r10 : type_of% @f68r10.eq_1 := id @f68r10.eq_1
def f68b11 : AQ := (.seq (.region f68r10) f68b9)
theorem uf68b11 (P ts os Q) : awl P f68b11 Q ts os = awl P (.seq (.region f68r10) f68b9) Q ts os := id rfl
def f68b12 : AQ := (.cond (.t 8) f68b6 f68b11)
theorem uf68b12 (P ts os Q) : awl P f68b12 Q ts os = awl P (.cond (.t 8) f68b6 f68b11) Q ts os := id rfl
def f68r13 : List AI := [⟨none, (.bin 9 .eql (.t 3) (.v (.k (.c (.int .i64 3)))))⟩, ⟨none, (.mov 8 (.t 9))⟩]
theorem uf68r13 : type_of% @f68r13.eq_1 := id @f68r13.eq_1
def f68b14 : AQ := (.seq (.region f68r13) f68b12)
theorem uf68b14 (P ts os Q) : awl P f68b14 Q ts os = awl P (.seq (.region f68r13) f68b12) Q ts os := id rfl
def f68b15 : AQ := (.cond (.t 4) f68b4 f68b14)
theorem uf68b15 (P ts os Q) : awl P f68b15 Q ts os = awl P (.cond (.t 4) f68b4 f68b14) Q ts os := id rfl
def f68r16 : List AI := [⟨none, (.bin 7 .eql (.t 3) (.v (.k (.c (.int .i64 2)))))⟩, ⟨none, (.mov 4 (.t 7))⟩]
theorem uf68r16 : type_of% @f68r16.eq_1 := id @f68r16.eq_1
def f68b17 : AQ := (.cond (.t 4) .skip (.region f68r16))
theorem uf68b17 (P ts os Q) : awl P f68b17 Q ts os = awl P (.cond (.t 4) .skip (.region f68r16)) Q ts os := id rfl
def f68r18 : List AI := [⟨none, (.bin 6 .eql (.t 3) (.v (.k (.c (.int .i64 1)))))⟩, ⟨none, (.mov 4 (.t 6))⟩]
theorem uf68r18 : type_of% @f68r18.eq_1 := id @f68r18.eq_1
def f68b19 : AQ := (.seq (.region f68r18) f68b17)
theorem uf68b19 (P ts os Q) : awl P f68b19 Q ts os = awl P (.seq (.region f68r18) f68b17) Q ts os := id rfl
def f68b20 : AQ := (.cond (.t 4) .skip f68b19)
theorem uf68b20 (P ts os Q) : awl P f68b20 Q ts os = awl P (.cond (.t 4) .skip f68b19) Q ts os := id rfl
def f68r21 : List AI := [⟨none, (.bin 5 .eql (.t 3) (.v (.k (.c (.int .i64 0)))))⟩, ⟨none, (.mov 4 (.t 5))⟩]
theorem uf68r21 : type_of% @f68r21.eq_1 := id @f68r21.eq_1
def f68b22 : AQ := (.seq (.region f68r21) f68b20)
theorem uf68b22 (P ts os Q) : awl P f68b22 Q ts os = awl P (.seq (.region f68r21) f68b20) Q ts os := id rfl
def f68b23 : AQ := (.seq f68b22 f68b15)
theorem uf68b23 (P ts os Q) : awl P f68b23 Q ts os = awl P (.seq f68b22 f68b15) Q ts os := id rfl
def f68b24 : AQ := (.block 0 f68b23)
theorem uf68b24 (P ts os Q) : awl P f68b24 Q ts os = awl P (.block 0 f68b23) Q ts os := id rfl
def f68r25 : List AI := [⟨none, (.mov 3 (.t 0))⟩]
theorem uf68r25 : type_of% @f68r25.eq_1 := id @f68r25.eq_1
def f68b26 : AQ := (.seq (.region f68r25) f68b24)
theorem uf68b26 (P ts os Q) : awl P f68b26 Q ts os = awl P (.seq (.region f68r25) f68b24) Q ts os := id rfl
def f68b27 : AQ := (.seq f68b26 f68b2)
theorem uf68b27 (P ts os Q) : awl P f68b27 Q ts os = awl P (.seq f68b26 f68b2) Q ts os := id rfl
def f68r28 : List AI := [⟨none, (.mov 2 (.v (.k (.c (.int .i64 0)))))⟩]
theorem uf68r28 : type_of% @f68r28.eq_1 := id @f68r28.eq_1
def f68b29 : AQ := (.seq (.region f68r28) f68b27)
theorem uf68b29 (P ts os Q) : awl P f68b29 Q ts os = awl P (.seq (.region f68r28) f68b27) Q ts os := id rfl
def f68 : AQ := f68b29
theorem uf68 (P ts os Q) : awl P f68 Q ts os = awl P f68b29 Q ts os := id rfl
theorem hf68 : cFunc Tryd.prog 68 = some ⟨12, f68.erase, [(RX.t 2)]⟩ := by kernel_rfl
theorem okf68 : f68.ok = true := by kernel_rfl
def f69r1 : List AI := [⟨none, (.mov 36 (.t 4))⟩, ⟨none, (.mov 2 (.t 36))⟩, ⟨none, (.mov 3 (.v (.k (.c (.int .i64 0)))))⟩]
theorem uf69r1 : type_of% @f69r1.eq_1 := id @f69r1.eq_1
def f69b2 : AQ := (.seq (.region f69r1) .ret)
theorem uf69b2 (P ts os Q) : awl P f69b2 Q ts os = awl P (.seq (.region f69r1) .ret) Q ts os := id rfl
def f69r3 : List AI := [⟨none, (.mov 2 (.v (.k (.c (.int .i64 0)))))⟩, ⟨none, (.mov 3 (.v (.k (.c (.int .i64 10)))))⟩]
theorem uf69r3 : type_of% @f69r3.eq_1 := id @f69r3.eq_1
def f69b4 : AQ := (.seq (.region f69r3) .ret)
theorem uf69b4 (P ts os Q) : awl P f69b4 Q ts os = awl P (.seq (.region f69r3) .ret) Q ts os := id rfl
def f69b5 : AQ := (.cond (.t 35) f69b4 .skip)
theorem uf69b5 (P ts os Q) : awl P f69b5 Q ts os = awl P (.cond (.t 35) f69b4 .skip) Q ts os := id rfl
def f69r6 : List AI := [⟨none, (.mov 34 (.t 5))⟩, ⟨none, (.un 35 .not (.t 34))⟩]
theorem uf69r6 : type_of% @f69r6.eq_1 := id @f69r6.eq_1
def f69b7 : AQ := (.seq (.region f69r6) f69b5)
theorem uf69b7 (P ts os Q) : awl P f69b7 Q ts os = awl P (.seq (.region f69r6) f69b5) Q ts os := id rfl
def f69b8 : AQ := (.seq f69b7 f69b2)
theorem uf69b8 (P ts os Q) : awl P f69b8 Q ts os = awl P (.seq f69b7 f69b2) Q ts os := id rfl
def f69r9 : List AI := [⟨none, (.faddr 29 1 (.t 1))⟩, ⟨none, (.load 30 1 false (.t 29))⟩, ⟨none, (.call (some 31) 71 [(.t 30)])⟩, ⟨none, (.mov 28 (.t 31))⟩, ⟨none, (.extr 32 (.t 28) 0)⟩, ⟨none, (.extr 33 (.t 28) 1)⟩, ⟨none, (.mov 4 (.t 32))⟩, ⟨none, (.mov 5 (.t 33))⟩]
theorem uf69r9 : type_of% @f69r9.eq_1 := id @f69r9.eq_1
def f69b10 : AQ := (.seq (.region f69r9) f69b8)
theorem uf69b10 (P ts os Q) : awl P f69b10 Q ts os = awl P (.seq (.region f69r9) f69b8) Q ts os := id rfl
def f69r11 : List AI := [⟨none, (.mov 2 (.v (.k (.c (.int .i64 1)))))⟩, ⟨none, (.mov 3 (.v (.k (.c (.int .i64 0)))))⟩]
theorem uf69r11 : type_of% @f69r11.eq_1 := id @f69r11.eq_1
def f69b12 : AQ := (.seq (.region f69r11) .ret)
theorem uf69b12 (P ts os Q) : awl P f69b12 Q ts os = awl P (.seq (.region f69r11) .ret) Q ts os := id rfl
def f69r13 : List AI := [⟨none, (.mov 2 (.v (.k (.c (.int .i64 0)))))⟩, ⟨none, (.mov 3 (.v (.k (.c (.int .i64 3)))))⟩]
theorem uf69r13 : type_of% @f69r13.eq_1 := id @f69r13.eq_1
def f69b14 : AQ := (.seq (.region f69r13) .ret)
theorem uf69b14 (P ts os Q) : awl P f69b14 Q ts os = awl P (.seq (.region f69r13) .ret) Q ts os := id rfl
def f69b15 : AQ := (.cond (.t 27) f69b14 .skip)
theorem uf69b15 (P ts os Q) : awl P f69b15 Q ts os = awl P (.cond (.t 27) f69b14 .skip) Q ts os := id rfl
def f69r16 : List AI := [⟨none, (.faddr 20 1 (.t 1))⟩, ⟨none, (.load 21 1 false (.t 20))⟩, ⟨none, (.bin 22 .neq (.t 21) (.v (.k (.c (.int .i64 0)))))⟩, ⟨none, (.mov 23 (.t 22))⟩, ⟨(some (23, true)), (.faddr 24 1 (.t 1))⟩, ⟨(some (23, true)), (.load 25 1 false (.t 24))⟩, ⟨(some (23, true)), (.bin 26 .neq (.t 25) (.v (.k (.c (.int .i64 1)))))⟩, ⟨none, (.pick 27 (.t 23) (.t 26) (.v (.k (.c (.bool false)))))⟩]
theorem uf69r16 : type_of% @f69r16.eq_1 := id @f69r16.eq_1
def f69b17 : AQ := (.seq (.region f69r16) f69b15)
theorem uf69b17 (P ts os Q) : awl P f69b17 Q ts os = awl P (.seq (.region f69r16) f69b15) Q ts os := id rfl
def f69b18 : AQ := (.seq f69b17 f69b12)
theorem uf69b18 (P ts os Q) : awl P f69b18 Q ts os = awl P (.seq f69b17 f69b12) Q ts os := id rfl
def f69b19 : AQ := (.cond (.t 19) f69b18 .skip)
theorem uf69b19 (P ts os Q) : awl P f69b19 Q ts os = awl P (.cond (.t 19) f69b18 .skip) Q ts os := id rfl
def f69r20 : List AI := [⟨none, (.faddr 17 0 (.t 1))⟩, ⟨none, (.load 18 1 false (.t 17))⟩, ⟨none, (.bin 19 .eql (.t 18) (.v (.k (.c (.int .i64 1)))))⟩]
theorem uf69r20 : type_of% @f69r20.eq_1 := id @f69r20.eq_1
def f69b21 : AQ := (.seq (.region f69r20) f69b19)
theorem uf69b21 (P ts os Q) : awl P f69b21 Q ts os = awl P (.seq (.region f69r20) f69b19) Q ts os := id rfl
def f69b22 : AQ := (.seq f69b21 f69b10)
theorem uf69b22 (P ts os Q) : awl P f69b22 Q ts os = awl P (.seq f69b21 f69b10) Q ts os := id rfl
def f69r23 : List AI := [⟨none, (.mov 2 (.v (.k (.c (.int .i64 0)))))⟩, ⟨none, (.mov 3 (.v (.k (.c (.int .i64 0)))))⟩]
theorem uf69r23 : type_of% @f69r23.eq_1 := id @f69r23.eq_1
def f69b24 : AQ := (.seq (.region f69r23) .ret)
theorem uf69b24 (P ts os Q) : awl P f69b24 Q ts os = awl P (.seq (.region f69r23) .ret) Q ts os := id rfl
def f69r25 : List AI := [⟨none, (.mov 2 (.v (.k (.c (.int .i64 0)))))⟩, ⟨none, (.mov 3 (.v (.k (.c (.int .i64 3)))))⟩]
theorem uf69r25 : type_of% @f69r25.eq_1 := id @f69r25.eq_1
def f69b26 : AQ := (.seq (.region f69r25) .ret)
theorem uf69b26 (P ts os Q) : awl P f69b26 Q ts os = awl P (.seq (.region f69r25) .ret) Q ts os := id rfl
def f69b27 : AQ := (.cond (.t 16) f69b26 .skip)
theorem uf69b27 (P ts os Q) : awl P f69b27 Q ts os = awl P (.cond (.t 16) f69b26 .skip) Q ts os := id rfl
def f69r28 : List AI := [⟨none, (.faddr 9 1 (.t 1))⟩, ⟨none, (.load 10 1 false (.t 9))⟩, ⟨none, (.bin 11 .lss (.t 10) (.v (.k (.c (.int .i64 (-1099511627776))))))⟩, ⟨none, (.mov 12 (.t 11))⟩, ⟨(some (12, false)), (.faddr 13 1 (.t 1))⟩, ⟨(some (12, false)), (.load 14 1 false (.t 13))⟩, ⟨(some (12, false)), (.bin 15 .gtr (.t 14) (.v (.k (.c (.int .i64 1099511627776)))))⟩, ⟨none, (.pick 16 (.t 12) (.v (.k (.c (.bool true)))) (.t 15))⟩]
theorem uf69r28 : type_of% @f69r28.eq_1 := id @f69r28.eq_1
def f69b29 : AQ := (.seq (.region f69r28) f69b27)
theorem uf69b29 (P ts os Q) : awl P f69b29 Q ts os = awl P (.seq (.region f69r28) f69b27) Q ts os := id rfl
def f69b30 : AQ := (.seq f69b29 f69b24)
theorem uf69b30 (P ts os Q) : awl P f69b30 Q ts os = awl P (.seq f69b29 f69b24) Q ts os := id rfl
def f69b31 : AQ := (.cond (.t 8) f69b30 .skip)
theorem uf69b31 (P ts os Q) : awl P f69b31 Q ts os = awl P (.cond (.t 8) f69b30 .skip) Q ts os := id rfl
def f69r32 : List AI := [⟨none, (.faddr 6 0 (.t 1))⟩, ⟨none, (.load 7 1 false (.t 6))⟩, ⟨none, (.bin 8 .eql (.t 7) (.v (.k (.c (.int .i64 0)))))⟩]
theorem uf69r32 : type_of% @f69r32.eq_1 := id @f69r32.eq_1
def f69b33 : AQ := (.seq (.region f69r32) f69b31)
theorem uf69b33 (P ts os Q) : awl P f69b33 Q ts os = awl P (.seq (.region f69r32) f69b31) Q ts os := id rfl
def f69b34 : AQ := (.seq f69b33 f69b22)
theorem uf69b34 (P ts os Q) : awl P f69b34 Q ts os = awl P (.seq f69b33 f69b22) Q ts os := id rfl
def f69r35 : List AI := [⟨none, (.box 1 50 (.t 0))⟩, ⟨none, (.mov 2 (.v (.k (.c (.int .i64 0)))))⟩, ⟨none, (.mov 3 (.v (.k (.c (.int .i64 0)))))⟩]
theorem uf69r35 : type_of% @f69r35.eq_1 := id @f69r35.eq_1
def f69b36 : AQ := (.seq (.region f69r35) f69b34)
theorem uf69b36 (P ts os Q) : awl P f69b36 Q ts os = awl P (.seq (.region f69r35) f69b34) Q ts os := id rfl
def f69 : AQ := f69b36
theorem uf69 (P ts os Q) : awl P f69 Q ts os = awl P f69b36 Q ts os := id rfl
theorem hf69 : cFunc Tryd.prog 69 = some ⟨37, f69.erase, [(RX.t 2), (RX.t 3)]⟩ := by kernel_rfl
theorem okf69 : f69.ok = true := by kernel_rfl
def f70r1 : List AI := [⟨none, (.mov 65 (.t 1))⟩, ⟨none, (.iaddr 66 1 (.t 65) (.v (.k (.c (.int .i64 0)))))⟩, ⟨none, (.load 67 1 false (.t 66))⟩, ⟨none, (.bin 68 .eql (.t 67) (.v (.k (.c (.int .i64 0)))))⟩, ⟨none, (.mov 69 (.t 68))⟩, ⟨(some (69, true)), (.mov 70 (.t 1))⟩, ⟨(some (69, true)), (.iaddr 71 1 (.t 70) (.v (.k (.c (.int .i64 1)))))⟩, ⟨(some (69, true)), (.load 72 1 false (.t 71))⟩, ⟨(some (69, true)), (.bin 73 .eql (.t 72) (.v (.k (.c (.int .i64 0)))))⟩, ⟨none, (.pick 74 (.t 69) (.t 73) (.v (.k (.c (.bool false)))))⟩, ⟨none, (.mov 4 (.v (.k (.c (.int .i64 0)))))⟩, ⟨none, (.mov 5 (.t 74))⟩]
theorem uf70r1 : type_of% @f70r1.eq_1 := id @f70r1.eq_1
def f70b2 : AQ := (.seq (.draw f70r1 [[], [0], [1], [2], [3], [4], [5, 4], [6, 4], [7, 4], [4, 8], [4], [9, 10, 0, 1, 2, 3, 4, 5, 6, 7, 8, 9, 10]]) .ret)
theorem uf70b2 (P ts os Q) : awl P f70b2 Q ts os = awl P (.seq (.draw f70r1 [[], [0], [1], [2], [3], [4], [5, 4], [6, 4], [7, 4], [4, 8], [4], [9, 10, 0, 1, 2, 3, 4, 5, 6, 7, 8, 9, 10]]) .ret) Q ts os := id rfl
def f70r3 : List AI := [⟨none, (.mov 9 (.t 1))⟩, ⟨none, (.iaddr 10 1 (.t 9) (.v (.k (.c (.int .i64 0)))))⟩, ⟨none, (.load 11 1 false (.t 10))⟩, ⟨none, (.bin 12 .eql (.t 11) (.v (.k (.c (.int .i64 1)))))⟩, ⟨none, (.mov 4 (.v (.k (.c (.int .i64 1)))))⟩, ⟨none, (.mov 5 (.t 12))⟩]
theorem uf70r3 : type_of% @f70r3.eq_1 := id @f70r3.eq_1
def f70b4 : AQ := (.seq (.draw f70r3 [[], [0], [1], [2], [], [3, 4, 0, 1, 2, 3, 4]]) .ret)
theorem uf70b4 (P ts os Q) : awl P f70b4 Q ts os = awl P (.seq (.draw f70r3 [[], [0], [1], [2], [], [3, 4, 0, 1, 2, 3, 4]]) .ret) Q ts os := id rfl
def f70r5 : List AI := [⟨none, (.mov 16 (.t 1))⟩, ⟨none, (.iaddr 17 1 (.t 16) (.v (.k (.c (.int .i64 0)))))⟩, ⟨none, (.load 18 1 false (.t 17))⟩, ⟨none, (.bin 19 .eql (.t 18) (.v (.k (.c (.int .i64 1)))))⟩, ⟨none, (.mov 20 (.t 19))⟩, ⟨(some (20, true)), (.mov 21 (.t 1))⟩, ⟨(some (20, true)), (.iaddr 22 1 (.t 21) (.v (.k (.c (.int .i64 1)))))⟩, ⟨(some (20, true)), (.load 23 1 false (.t 22))⟩, ⟨(some (20, true)), (.bin 24 .eql (.t 23) (.v (.k (.c (.int .i64 1)))))⟩, ⟨none, (.pick 25 (.t 20) (.t 24) (.v (.k (.c (.bool false)))))⟩, ⟨none, (.mov 4 (.v (.k (.c (.int .i64 1)))))⟩, ⟨none, (.mov 5 (.t 25))⟩]
theorem uf70r5 : type_of% @f70r5.eq_1 := id @f70r5.eq_1
def f70b6 : AQ := (.seq (.draw f70r5 [[], [0], [1], [2], [3], [4], [5, 4], [6, 4], [7, 4], [4, 8], [4], [9, 10, 0, 1, 2, 3, 4, 5, 6, 7, 8, 9, 10]]) .ret)
theorem uf70b6 (P ts os Q) : awl P f70b6 Q ts os = awl P (.seq (.draw f70r5 [[], [0], [1], [2], [3], [4], [5, 4], [6, 4], [7, 4], [4, 8], [4], [9, 10, 0, 1, 2, 3, 4, 5, 6, 7, 8, 9, 10]]) .ret) Q ts os := id rfl
def f70r7 : List AI := [⟨none, (.mov 28 (.t 1))⟩, ⟨none, (.iaddr 29 1 (.t 28) (.v (.k (.c (.int .i64 1)))))⟩, ⟨none, (.load 30 1 false (.t 29))⟩, ⟨none, (.mov 31 (.t 1))⟩, ⟨none, (.iaddr 32 1 (.t 31) (.v (.k (.c (.int .i64 0)))))⟩, ⟨none, (.load 33 1 false (.t 32))⟩, ⟨none, (.bin 34 .eql (.t 33) (.v (.k (.c (.int .i64 1)))))⟩, ⟨none, (.mov 35 (.t 34))⟩, ⟨(some (35, true)), (.mov 36 (.t 1))⟩, ⟨(some (35, true)), (.iaddr 37 1 (.t 36) (.v (.k (.c (.int .i64 1)))))⟩, ⟨(some (35, true)), (.load 38 1 false (.t 37))⟩, ⟨(some (35, true)), (.mov 39 (.t 1))⟩, ⟨(some (35, true)), (.iaddr 40 1 (.t 39) (.v (.k (.c (.int .i64 2)))))⟩, ⟨(some (35, true)), (.load 41 1 false (.t 40))⟩, ⟨(some (35, true)), (.bin 42 .eql (.t 38) (.t 41))⟩, ⟨none, (.pick 43 (.t 35) (.t 42) (.v (.k (.c (.bool false)))))⟩, ⟨none, (.mov 4 (.t 30))⟩, ⟨none, (.mov 5 (.t 43))⟩]
theorem uf70r7 : type_of% @f70r7.eq_1 := id @f70r7.eq_1
def f70b8 : AQ := (.seq (.draw f70r7 [[], [0], [1], [], [3], [4], [5], [6], [7], [8, 7], [9, 7], [7], [11, 7], [12, 7], [10, 13, 7], [7, 14], [2, 7, 0, 1, 2], [15, 16, 0, 1, 2, 3, 4, 5, 6, 7, 8, 9, 10, 11, 12, 13, 14, 15, 16]]) .ret)
theorem uf70b8 (P ts os Q) : awl P f70b8 Q ts os = awl P (.seq (.draw f70r7 [[], [0], [1], [], [3], [4], [5], [6], [7], [8, 7], [9, 7], [7], [11, 7], [12, 7], [10, 13, 7], [7, 14], [2, 7, 0, 1, 2], [15, 16, 0, 1, 2, 3, 4, 5, 6, 7, 8, 9, 10, 11, 12, 13, 14, 15, 16]]) .ret) Q ts os := id rfl
def f70r9 : List AI := [⟨none, (.mov 46 (.t 1))⟩, ⟨none, (.iaddr 47 1 (.t 46) (.v (.k (.c (.int .i64 0)))))⟩, ⟨none, (.load 48 1 false (.t 47))⟩, ⟨none, (.bin 49 .eql (.t 48) (.v (.k (.c (.int .i64 0)))))⟩, ⟨none, (.mov 50 (.t 49))⟩, ⟨(some (50, true)), (.mov 51 (.t 1))⟩, ⟨(some (50, true)), (.iaddr 52 1 (.t 51) (.v (.k (.c (.int .i64 1)))))⟩, ⟨(some (50, true)), (.load 53 1 false (.t 52))⟩, ⟨(some (50, true)), (.bin 54 .eql (.t 53) (.v (.k (.c (.int .i64 0)))))⟩, ⟨none, (.pick 55 (.t 50) (.t 54) (.v (.k (.c (.bool false)))))⟩, ⟨none, (.mov 4 (.v (.k (.c (.int .i64 1)))))⟩, ⟨none, (.mov 5 (.t 55))⟩]
theorem uf70r9 : type_of% @f70r9.eq_1 := id @f70r9.eq_1
def f70b10 : AQ := (.seq (.draw f70r9 [[], [0], [1], [2], [3], [4], [5, 4], [6, 4], [7, 4], [4, 8], [4], [9, 10, 0, 1, 2, 3, 4, 5, 6, 7, 8, 9, 10]]) .ret)
theorem uf70b10 (P ts os Q) : awl P f70b10 Q ts os = awl P (.seq (.draw f70r9 [[], [0], [1], [2], [3], [4], [5, 4], [6, 4], [7, 4], [4, 8], [4], [9, 10, 0, 1, 2, 3, 4, 5, 6, 7, 8, 9, 10]]) .ret) Q ts os := id rfl
def f70r11 : List AI := [⟨none, (.mov 58 (.t 1))⟩, ⟨none, (.iaddr 59 1 (.t 58) (.v (.k (.c (.int .i64 0)))))⟩, ⟨none, (.load 60 1 false (.t 59))⟩, ⟨none, (.mov 61 (.t 1))⟩, ⟨none, (.iaddr 62 1 (.t 61) (.v (.k (.c (.int .i64 1)))))⟩, ⟨none, (.load 63 1 false (.t 62))⟩, ⟨none, (.bin 64 .eql (.t 60) (.t 63))⟩, ⟨none, (.mov 4 (.v (.k (.c (.int .i64 1)))))⟩, ⟨none, (.mov 5 (.t 64))⟩]
theorem uf70r11 : type_of% @f70r11.eq_1 := id @f70r11.eq_1
def f70b12 : AQ := (.seq (.draw f70r11 [[], [0], [1], [], [3], [4], [2, 5], [], [6, 7, 0, 1, 2, 3, 4, 5, 6, 7]]) .ret)
theorem uf70b12 (P ts os Q) : awl P f70b12 Q ts os = awl P (.seq (.draw f70r11 [[], [0], [1], [], [3], [4], [2, 5], [], [6, 7, 0, 1, 2, 3, 4, 5, 6, 7]]) .ret) Q ts os := id rfl
def f70b13 : AQ := (.cond (.t 56) f70b12 .skip)
theorem uf70b13 (P ts os Q) : awl P f70b13 Q ts os = awl P (.cond (.t 56) f70b12 .skip) Q ts os := id rfl
def f70r14 : List AI := [⟨none, (.bin 57 .eql (.t 6) (.v (.k (.c (.int .i64 8)))))⟩, ⟨none, (.mov 56 (.t 57))⟩]
theorem uf70r14 : type_of% @f70r14.eq_1 := id @f70r14.eq_1
def f70b15 : AQ := (.seq (.region f70r14) f70b13)
theorem uf70b15 (P ts os Q) : awl P f70b15 Q ts os = awl P (.seq (.region f70r14) f70b13) Q ts os := id rfl
def f70b16 : AQ := (.cond (.t 44) f70b10 f70b15)
theorem uf70b16 (P ts os Q) : awl P f70b16 Q ts os = awl P (.cond (.t 44) f70b10 f70b15) Q ts os := id rfl
def f70r17 : List AI := [⟨none, (.bin 45 .eql (.t 6) (.v (.k (.c (.int .i64 7)))))⟩, ⟨none, (.mov 44 (.t 45))⟩]
theorem uf70r17 : type_of% @f70r17.eq_1 := id @f70r17.eq_1
def f70b18 : AQ := (.seq (.region f70r17) f70b16)
theorem uf70b18 (P ts os Q) : awl P f70b18 Q ts os = awl P (.seq (.region f70r17) f70b16) Q ts os := id rfl
def f70b19 : AQ := (.cond (.t 26) f70b8 f70b18)
theorem uf70b19 (P ts os Q) : awl P f70b19 Q ts os = awl P (.cond (.t 26) f70b8 f70b18) Q ts os := id rfl
def f70r20 : List AI := [⟨none, (.bin 27 .eql (.t 6) (.v (.k (.c (.int .i64 6)))))⟩, ⟨none, (.mov 26 (.t 27))⟩]
theorem uf70r20 : type_of% @f70r20.eq_1 := id @f70r20.eq_1
def f70b21 : AQ := (.seq (.region f70r20) f70b19)
theorem uf70b21 (P ts os Q) : awl P f70b21 Q ts os = awl P (.seq (.region f70r20) f70b19) Q ts os := id rfl
def f70b22 : AQ := (.cond (.t 13) f70b6 f70b21)
theorem uf70b22 (P ts os Q) : awl P f70b22 Q ts os = awl P (.cond (.t 13) f70b6 f70b21) Q ts os := id rfl
def f70r23 : List AI := [⟨none, (.bin 15 .eql (.t 6) (.v (.k (.c (.int .i64 5)))))⟩, ⟨none, (.mov 13 (.t 15))⟩]
theorem uf70r23 : type_of% @f70r23.eq_1 := id @f70r23.eq_1
def f70b24 : AQ := (.cond (.t 13) .skip (.region f70r23))
theorem uf70b24 (P ts os Q) : awl P f70b24 Q ts os = awl P (.cond (.t 13) .skip (.region f70r23)) Q ts os := id rfl
def f70r25 : List AI := [⟨none, (.bin 14 .eql (.t 6) (.v (.k (.c (.int .i64 4)))))⟩, ⟨none, (.mov 13 (.t 14))⟩]
theorem uf70r25 : type_of% @f70r25.eq_1 := id @f70r25.eq_1
def f70b26 : AQ := (.seq (.region f70r25) f70b24)
theorem uf70b26 (P ts os Q) : awl P f70b26 Q ts os = awl P (.seq (.region f70r25) f70b24) Q ts os := id rfl
def f70b27 : AQ := (.seq f70b26 f70b22)
theorem uf70b27 (P ts os Q) : awl P f70b27 Q ts os = awl P (.seq f70b26 f70b22) Q ts os := id rfl
def f70b28 : AQ := (.cond (.t 7) f70b4 f70b27)
theorem uf70b28 (P ts os Q) : awl P f70b28 Q ts os = awl P (.cond (.t 7) f70b4 f70b27) Q ts os := id rfl
def f70r29 : List AI := [⟨none, (.bin 8 .eql (.t 6) (.v (.k (.c (.int .i64 3)))))⟩, ⟨none, (.mov 7 (.t 8))⟩]
theorem uf70r29 : type_of% @f70r29.eq_1 := id @f70r29.eq_1
def f70b30 : AQ := (.seq (.region f70r29) f70b28)
theorem uf70b30 (P ts os Q) : awl P f70b30 Q ts os = awl P (.seq (.region f70r29) f70b28) Q ts os := id rfl
def f70b31 : AQ := (.block 0 f70b30)
theorem uf70b31 (P ts os Q) : awl P f70b31 Q ts os = awl P (.block 0 f70b30) Q ts os := id rfl
def f70r32 : List AI := [⟨none, (.mov 6 (.t 0))⟩]
theorem uf70r32 : type_of% @f70r32.eq_1 := id @f70r32.eq_1
def f70b33 : AQ := (.seq (.region f70r32) f70b31)
theorem uf70b33 (P ts os Q) : awl P f70b33 Q ts os = awl P (.seq (.region f70r32) f70b31) Q ts os := id rfl
def f70b34 : AQ := (.seq f70b33 f70b2)
theorem uf70b34 (P ts os Q) : awl P f70b34 Q ts os = awl P (.seq f70b33 f70b2) Q ts os := id rfl
def f70r35 : List AI := [⟨none, (.mov 4 (.v (.k (.c (.int .i64 0)))))⟩, ⟨none, (.mov 5 (.v (.k (.c (.bool false)))))⟩]
theorem uf70r35 : type_of% @f70r35.eq_1 := id @f70r35.eq_1
def f70b36 : AQ := (.seq (.region f70r35) f70b34)
theorem uf70b36 (P ts os Q) : awl P f70b36 Q ts os = awl P (.seq (.region f70r35) f70b34) Q ts os := id rfl
def f70 : AQ := f70b36
theorem uf70 (P ts os Q) : awl P f70 Q ts os = awl P f70b36 Q ts os := id rfl
theorem hf70 : cFunc Tryd.prog 70 = some ⟨75, f70.erase, [(RX.t 4), (RX.t 5)]⟩ := by kernel_rfl
theorem okf70 : f70.ok = true := by kernel_rfl
def f71r1 : List AI := [⟨none, (.mov 2 (.v (.k (.c (.int .i64 1)))))⟩, ⟨none, (.mov 3 (.v (.k (.c (.bool true)))))⟩]
theorem uf71r1 : type_of% @f71r1.eq_1 := id @f71r1.eq_1
def f71b2 : AQ := (.seq (.region f71r1) .ret)
theorem uf71b2 (P ts os Q) : awl P f71b2 Q ts os = awl P (.seq (.region f71r1) .ret) Q ts os := id rfl
def f71r3 : List AI := [⟨none, (.mov 2 (.v (.k (.c (.int .i64 0)))))⟩, ⟨none, (.mov 3 (.v (.k (.c (.bool true)))))⟩]
theorem uf71r3 : type_of% @f71r3.eq_1 := id @f71r3.eq_1
def f71b4 : AQ := (.seq (.region f71r3) .ret)
theorem uf71b4 (P ts os Q) : awl P f71b4 Q ts os = awl P (.seq (.region f71r3) .ret) Q ts os := id rfl
def f71b5 : AQ := (.cond (.t 11) f71b4 .skip)
theorem uf71b5 (P ts os Q) : awl P f71b5 Q ts os = awl P (.cond (.t 11) f71b4 .skip) Q ts os := id rfl
def f71r6 : List AI := [⟨none, (.mov 10 (.t 0))⟩, ⟨none, (.bin 11 .leq (.t 10) (.v (.k (.c (.int .i64 6)))))⟩]
theorem uf71r6 : type_of% @f71r6.eq_1 := id @f71r6.eq_1
def f71b7 : AQ := (.seq (.region f71r6) f71b5)
theorem uf71b7 (P ts os Q) : awl P f71b7 Q ts os = awl P (.seq (.region f71r6) f71b5) Q ts os := id rfl
def f71b8 : AQ := (.seq f71b7 f71b2)
theorem uf71b8 (P ts os Q) : awl P f71b8 Q ts os = awl P (.seq f71b7 f71b2) Q ts os := id rfl
def f71r9 : List AI := [⟨none, (.mov 2 (.v (.k (.c (.int .i64 0)))))⟩, ⟨none, (.mov 3 (.v (.k (.c (.bool false)))))⟩]
theorem uf71r9 : type_of% @f71r9.eq_1 := id @f71r9.eq_1
def f71b10 : AQ := (.seq (.region f71r9) .ret)
theorem uf71b10 (P ts os Q) : awl P f71b10 Q ts os = awl P (.seq (.region f71r9) .ret) Q ts os := id rfl
def f71b11 : AQ := (.cond (.t 9) f71b10 .skip)
theorem uf71b11 (P ts os Q) : awl P f71b11 Q ts os = awl P (.cond (.t 9) f71b10 .skip) Q ts os := id rfl
def f71r12 : List AI := [⟨none, (.mov 4 (.t 0))⟩, ⟨none, (.bin 5 .lss (.t 4) (.v (.k (.c (.int .i64 0)))))⟩, ⟨none, (.mov 6 (.t 5))⟩, ⟨(some (6, false)), (.mov 7 (.t 0))⟩, ⟨(some (6, false)), (.bin 8 .geq (.t 7) (.v (.k (.c (.int .i64 20)))))⟩, ⟨none, (.pick 9 (.t 6) (.v (.k (.c (.bool true)))) (.t 8))⟩]
theorem uf71r12 : type_of% @f71r12.eq_1 := id @f71r12.eq_1
def f71b13 : AQ := (.seq (.region f71r12) f71b11)
theorem uf71b13 (P ts os Q) : awl P f71b13 Q ts os = awl P (.seq (.region f71r12) f71b11) Q ts os := id rfl
def f71b14 : AQ := (.seq f71b13 f71b8)
theorem uf71b14 (P ts os Q) : awl P f71b14 Q ts os = awl P (.seq f71b13 f71b8) Q ts os := id rfl
def f71r15 : List AI := [⟨none, (.mov 2 (.v (.k (.c (.int .i64 0)))))⟩, ⟨none, (.mov 3 (.v (.k (.c (.bool false)))))⟩]
theorem uf71r15 : type_of% @f71r15.eq_1 := id @f71r15.eq_1
def f71b16 : AQ := (.seq (.region f71r15) f71b14)
theorem uf71b16 (P ts os Q) : awl P f71b16 Q ts os = awl P (.seq (.region f71r15) f71b14) Q ts os := id rfl
def f71 : AQ := f71b16
theorem uf71 (P ts os Q) : awl P f71 Q ts os = awl P f71b16 Q ts os := id rfl
theorem hf71 : cFunc Tryd.prog 71 = some ⟨12, f71.erase, [(RX.t 2), (RX.t 3)]⟩ := by kernel_rfl
theorem okf71 : f71.ok = true := by kernel_rfl
def f72r1 : List AI := [⟨none, (.mov 3 (.t 0))⟩, ⟨none, (.minmax 4 false (.v (.k (.c (.int .i64 1099511627776)))) [(.t 3)])⟩, ⟨none, (.minmax 5 true (.v (.k (.c (.int .i64 (-1099511627776))))) [(.t 4)])⟩, ⟨none, (.mov 2 (.t 5))⟩]
theorem uf72r1 : type_of% @f72r1.eq_1 := id @f72r1.eq_1
def f72b2 : AQ := (.seq (.region f72r1) .ret)
theorem uf72b2 (P ts os Q) : awl P f72b2 Q ts os = awl P (.seq (.region f72r1) .ret) Q ts os := id rfl
def f72r3 : List AI := [⟨none, (.mov 2 (.v (.k (.c (.int .i64 0)))))⟩]
theorem uf72r3 : type_of% @f72r3.eq_1 := id @f72r3.eq_1
def f72b4 : AQ := (.seq (.region f72r3) f72b2)
theorem uf72b4 (P ts os Q) : awl P f72b4 Q ts os = awl P (.seq (.region f72r3) f72b2) Q ts os := id rfl
def f72 : AQ := f72b4
theorem uf72 (P ts os Q) : awl P f72 Q ts os = awl P f72b4 Q ts os := id rfl
theorem hf72 : cFunc Tryd.prog 72 = some ⟨6, f72.erase, [(RX.t 2)]⟩ := by kernel_rfl
theorem okf72 : f72.ok = true := by kernel_rfl
def f73r1 : List AI := [⟨none, (.build 5 [(.bool false), (.int .i64 0)] [(0, (1, (.v (.k (.c (.bool true))))))])⟩, ⟨none, (.store 2 (.t 2) (.t 5))⟩]
theorem uf73r1 : type_of% @f73r1.eq_1 := id @f73r1.eq_1
def f73b2 : AQ := (.seq (.region f73r1) .ret)
theorem uf73b2 (P ts os Q) : awl P f73b2 Q ts os = awl P (.seq (.region f73r1) .ret) Q ts os := id rfl
def f73r3 : List AI := [⟨none, (.build 4 [(.bool false), (.int .i64 0)] [(0, (1, (.v (.k (.c (.bool true)))))), (1, (1, (.v (.k (.c (.int .i64 1))))))])⟩, ⟨none, (.store 2 (.t 2) (.t 4))⟩]
theorem uf73r3 : type_of% @f73r3.eq_1 := id @f73r3.eq_1
def f73b4 : AQ := (.seq (.region f73r3) .ret)
theorem uf73b4 (P ts os Q) : awl P f73b4 Q ts os = awl P (.seq (.region f73r3) .ret) Q ts os := id rfl
def f73b5 : AQ := (.cond (.t 3) f73b4 .skip)
theorem uf73b5 (P ts os Q) : awl P f73b5 Q ts os = awl P (.cond (.t 3) f73b4 .skip) Q ts os := id rfl
def f73r6 : List AI := [⟨none, (.mov 3 (.t 0))⟩]
theorem uf73r6 : type_of% @f73r6.eq_1 := id @f73r6.eq_1
def f73b7 : AQ := (.seq (.region f73r6) f73b5)
theorem uf73b7 (P ts os Q) : awl P f73b7 Q ts os = awl P (.seq (.region f73r6) f73b5) Q ts os := id rfl
def f73b8 : AQ := (.seq f73b7 f73b2)
theorem uf73b8 (P ts os Q) : awl P f73b8 Q ts os = awl P (.seq f73b7 f73b2) Q ts os := id rfl
def f73r9 : List AI := [⟨none, (.alloc 2 30 [(.bool false), (.int .i64 0)])⟩]
theorem uf73r9 : type_of% @f73r9.eq_1 := id @f73r9.eq_1
def f73b10 : AQ := (.seq (.region f73r9) f73b8)
theorem uf73b10 (P ts os Q) : awl P f73b10 Q ts os = awl P (.seq (.region f73r9) f73b8) Q ts os := id rfl
def f73 : AQ := f73b10
theorem uf73 (P ts os Q) : awl P f73 Q ts os = awl P f73b10 Q ts os := id rfl
theorem hf73 : cFunc Tryd.prog 73 = some ⟨6, f73.erase, [(RX.cell 2 2 true)]⟩ := by kernel_rfl
theorem okf73 : f73.ok = true := by kernel_rfl
def f74r1 : List AI := [⟨none, (.mov 34 (.t 5))⟩, ⟨none, (.mov 35 (.t 6))⟩, ⟨none, (.bin 36 .mul (.t 34) (.t 35))⟩, ⟨none, (.mov 4 (.t 36))⟩]
theorem uf74r1 : type_of% @f74r1.eq_1 := id @f74r1.eq_1
def f74b2 : AQ := (.seq (.region f74r1) .ret)
theorem uf74b2 (P ts os Q) : awl P f74b2 Q ts os = awl P (.seq (.region f74r1) .ret) Q ts os := id rfl
def f74r3 : List AI := [⟨none, (.mov 30 (.t 5))⟩, ⟨none, (.un 31 .neg (.t 30))⟩, ⟨none, (.mov 32 (.t 6))⟩, ⟨none, (.bin 33 .mul (.t 31) (.t 32))⟩, ⟨none, (.mov 4 (.t 33))⟩]
theorem uf74r3 : type_of% @f74r3.eq_1 := id @f74r3.eq_1
def f74b4 : AQ := (.seq (.region f74r3) .ret)
theorem uf74b4 (P ts os Q) : awl P f74b4 Q ts os = awl P (.seq (.region f74r3) .ret) Q ts os := id rfl
def f74b5 : AQ := (.cond (.t 29) f74b4 .skip)
theorem uf74b5 (P ts os Q) : awl P f74b5 Q ts os = awl P (.cond (.t 29) f74b4 .skip) Q ts os := id rfl
def f74r6 : List AI := [⟨none, (.mov 25 (.t 0))⟩, ⟨none, (.bin 26 .lss (.t 25) (.v (.k (.c (.int .i64 0)))))⟩, ⟨none, (.mov 27 (.t 1))⟩, ⟨none, (.bin 28 .lss (.t 27) (.v (.k (.c (.int .i64 0)))))⟩, ⟨none, (.binB 29 true (.t 26) (.t 28))⟩]
theorem uf74r6 : type_of% @f74r6.eq_1 := id @f74r6.eq_1
def f74b7 : AQ := (.seq (.region f74r6) f74b5)
theorem uf74b7 (P ts os Q) : awl P f74b7 Q ts os = awl P (.seq (.region f74r6) f74b5) Q ts os := id rfl
def f74b8 : AQ := (.seq f74b7 f74b2)
theorem uf74b8 (P ts os Q) : awl P f74b8 Q ts os = awl P (.seq f74b7 f74b2) Q ts os := id rfl
def f74r9 : List AI := [⟨none, (.mov 6 (.v (.k (.c (.int .i64 1)))))⟩]
theorem uf74r9 : type_of% @f74r9.eq_1 := id @f74r9.eq_1
def f74r10 : List AI := [⟨none, (.mov 5 (.v (.k (.c (.int .i64 1099511627776)))))⟩]
theorem uf74r10 : type_of% @f74r10.eq_1 := id @f74r10.eq_1
def f74b11 : AQ := (.seq (.region f74r10) (.region f74r9))
theorem uf74b11 (P ts os Q) : awl P f74b11 Q ts os = awl P (.seq (.region f74r10) (.region f74r9)) Q ts os := id rfl
def f74b12 : AQ := (.cond (.t 24) f74b11 .skip)
theorem uf74b12 (P ts os Q) : awl P f74b12 Q ts os = awl P (.cond (.t 24) f74b11 .skip) Q ts os := id rfl
def f74r13 : List AI := [⟨none, (.mov 21 (.t 5))⟩, ⟨none, (.mov 22 (.t 6))⟩, ⟨none, (.bin 23 .quo (.v (.k (.c (.int .i64 1099511627776)))) (.t 22))⟩, ⟨none, (.bin 24 .gtr (.t 21) (.t 23))⟩]
theorem uf74r13 : type_of% @f74r13.eq_1 := id @f74r13.eq_1
def f74b14 : AQ := (.seq (.region f74r13) f74b12)
theorem uf74b14 (P ts os Q) : awl P f74b14 Q ts os = awl P (.seq (.region f74r13) f74b12) Q ts os := id rfl
def f74b15 : AQ := (.seq f74b14 f74b8)
theorem uf74b15 (P ts os Q) : awl P f74b15 Q ts os = awl P (.seq f74b14 f74b8) Q ts os := id rfl
def f74r16 : List AI := [⟨none, (.mov 17 (.t 1))⟩, ⟨none, (.mov 18 (.t 1))⟩, ⟨none, (.un 19 .neg (.t 18))⟩, ⟨none, (.minmax 20 true (.t 17) [(.t 19)])⟩, ⟨none, (.mov 6 (.t 20))⟩]
theorem uf74r16 : type_of% @f74r16.eq_1 := id @f74r16.eq_1
def f74b17 : AQ := (.seq (.region f74r16) f74b15)
theorem uf74b17 (P ts os Q) : awl P f74b17 Q ts os = awl P (.seq (.region f74r16) f74b15) Q ts os := id rfl
def f74r18 : List AI := [⟨none, (.mov 13 (.t 0))⟩, ⟨none, (.mov 14 (.t 0))⟩, ⟨none, (.un 15 .neg (.t 14))⟩, ⟨none, (.minmax 16 true (.t 13) [(.t 15)])⟩, ⟨none, (.mov 5 (.t 16))⟩]
theorem uf74r18 : type_of% @f74r18.eq_1 := id @f74r18.eq_1
def f74b19 : AQ := (.seq (.region f74r18) f74b17)
theorem uf74b19 (P ts os Q) : awl P f74b19 Q ts os = awl P (.seq (.region f74r18) f74b17) Q ts os := id rfl
def f74r20 : List AI := [⟨none, (.mov 4 (.v (.k (.c (.int .i64 0)))))⟩]
theorem uf74r20 : type_of% @f74r20.eq_1 := id @f74r20.eq_1
def f74b21 : AQ := (.seq (.region f74r20) .ret)
theorem uf74b21 (P ts os Q) : awl P f74b21 Q ts os = awl P (.seq (.region f74r20) .ret) Q ts os := id rfl
def f74b22 : AQ := (.cond (.t 12) f74b21 .skip)
theorem uf74b22 (P ts os Q) : awl P f74b22 Q ts os = awl P (.cond (.t 12) f74b21 .skip) Q ts os := id rfl
def f74r23 : List AI := [⟨none, (.mov 7 (.t 0))⟩, ⟨none, (.bin 8 .eql (.t 7) (.v (.k (.c (.int .i64 0)))))⟩, ⟨none, (.mov 9 (.t 8))⟩, ⟨(some (9, false)), (.mov 10 (.t 1))⟩, ⟨(some (9, false)), (.bin 11 .eql (.t 10) (.v (.k (.c (.int .i64 0)))))⟩, ⟨none, (.pick 12 (.t 9) (.v (.k (.c (.bool true)))) (.t 11))⟩]
theorem uf74r23 : type_of% @f74r23.eq_1 := id @f74r23.eq_1
def f74b24 : AQ := (.seq (.region f74r23) f74b22)
theorem uf74b24 (P ts os Q) : awl P f74b24 Q ts os = awl P (.seq (.region f74r23) f74b22) Q ts os := id rfl
def f74b25 : AQ := (.seq f74b24 f74b19)
theorem uf74b25 (P ts os Q) : awl P f74b25 Q ts os = awl P (.seq f74b24 f74b19) Q ts os := id rfl
def f74r26 : List AI := [⟨none, (.mov 4 (.v (.k (.c (.int .i64 0)))))⟩]
theorem uf74r26 : type_of% @f74r26.eq_1 := id @f74r26.eq_1
def f74b27 : AQ := (.seq (.region f74r26) f74b25)
theorem uf74b27 (P ts os Q) : awl P f74b27 Q ts os = awl P (.seq (.region f74r26) f74b25) Q ts os := id rfl
def f74 : AQ := f74b27
theorem uf74 (P ts os Q) : awl P f74 Q ts os = awl P f74b27 Q ts os := id rfl
theorem hf74 : cFunc Tryd.prog 74 = some ⟨37, f74.erase, [(RX.t 4)]⟩ := by kernel_rfl
theorem okf74 : f74.ok = true := by kernel_rfl
def f86r1 : List AI := [⟨none, (.mov 37 (.t 7))⟩, ⟨none, (.mov 4 (.t 37))⟩]
theorem uf86r1 : type_of% @f86r1.eq_1 := id @f86r1.eq_1
def f86b2 : AQ := (.seq (.region f86r1) .ret)
theorem uf86b2 (P ts os Q) : awl P f86b2 Q ts os = awl P (.seq (.region f86r1) .ret) Q ts os := id rfl
def f86r3 : List AI := [⟨none, (.mov 35 (.t 7))⟩, ⟨none, (.un 36 .neg (.t 35))⟩, ⟨none, (.mov 4 (.t 36))⟩]
theorem uf86r3 : type_of% @f86r3.eq_1 := id @f86r3.eq_1
def f86b4 : AQ := (.seq (.region f86r3) .ret)
theorem uf86b4 (P ts os Q) : awl P f86b4 Q ts os = awl P (.seq (.region f86r3) .ret) Q ts os := id rfl
def f86b5 : AQ := (.cond (.t 34) f86b4 .skip)
theorem uf86b5 (P ts os Q) : awl P f86b5 Q ts os = awl P (.cond (.t 34) f86b4 .skip) Q ts os := id rfl
def f86r6 : List AI := [⟨none, (.mov 30 (.t 0))⟩, ⟨none, (.bin 31 .lss (.t 30) (.v (.k (.c (.int .i64 0)))))⟩, ⟨none, (.mov 32 (.t 1))⟩, ⟨none, (.bin 33 .lss (.t 32) (.v (.k (.c (.int .i64 0)))))⟩, ⟨none, (.binB 34 true (.t 31) (.t 33))⟩]
theorem uf86r6 : type_of% @f86r6.eq_1 := id @f86r6.eq_1
def f86b7 : AQ := (.seq (.region f86r6) f86b5)
theorem uf86b7 (P ts os Q) : awl P f86b7 Q ts os = awl P (.seq (.region f86r6) f86b5) Q ts os := id rfl
def f86b8 : AQ := (.seq f86b7 f86b2)
theorem uf86b8 (P ts os Q) : awl P f86b8 Q ts os = awl P (.seq f86b7 f86b2) Q ts os := id rfl
def f86r9 : List AI := [⟨none, (.mov 28 (.t 6))⟩, ⟨none, (.conv 29 .i64 (.t 28))⟩, ⟨none, (.mov 7 (.t 29))⟩]
theorem uf86r9 : type_of% @f86r9.eq_1 := id @f86r9.eq_1
def f86b10 : AQ := (.cond (.t 27) (.region f86r9) .skip)
theorem uf86b10 (P ts os Q) : awl P f86b10 Q ts os = awl P (.cond (.t 27) (.region f86r9) .skip) Q ts os := id rfl
def f86r11 : List AI := [⟨none, (.mov 22 (.t 5))⟩, ⟨none, (.bin 23 .eql (.t 22) (.v (.k (.c (.int .u64 0)))))⟩, ⟨none, (.mov 24 (.t 23))⟩, ⟨(some (24, true)), (.mov 25 (.t 6))⟩, ⟨(some (24, true)), (.bin 26 .lss (.t 25) (.v (.k (.c (.int .u64 1099511627776)))))⟩, ⟨none, (.pick 27 (.t 24) (.t 26) (.v (.k (.c (.bool false)))))⟩]
theorem uf86r11 : type_of% @f86r11.eq_1 := id @f86r11.eq_1
def f86b12 : AQ := (.seq (.region f86r11) f86b10)
theorem uf86b12 (P ts os Q) : awl P f86b12 Q ts os = awl P (.seq (.region f86r11) f86b10) Q ts os := id rfl
def f86b13 : AQ := (.seq f86b12 f86b8)
theorem uf86b13 (P ts os Q) : awl P f86b13 Q ts os = awl P (.seq f86b12 f86b8) Q ts os := id rfl
def f86r14 : List AI := [⟨none, (.mov 7 (.v (.k (.c (.int .i64 1099511627776)))))⟩]
theorem uf86r14 : type_of% @f86r14.eq_1 := id @f86r14.eq_1
def f86b15 : AQ := (.seq (.region f86r14) f86b13)
theorem uf86b15 (P ts os Q) : awl P f86b15 Q ts os = awl P (.seq (.region f86r14) f86b13) Q ts os := id rfl
def f86r16 : List AI := [⟨none, (.mov 9 (.t 0))⟩, ⟨none, (.mov 10 (.t 0))⟩, ⟨none, (.un 11 .neg (.t 10))⟩, ⟨none, (.minmax 12 true (.t 9) [(.t 11)])⟩, ⟨none, (.conv 13 .u64 (.t 12))⟩, ⟨none, (.mov 14 (.t 1))⟩, ⟨none, (.mov 15 (.t 1))⟩, ⟨none, (.un 16 .neg (.t 15))⟩, ⟨none, (.minmax 17 true (.t 14) [(.t 16)])⟩, ⟨none, (.conv 18 .u64 (.t 17))⟩, ⟨none, (.call (some 19) 93 [(.t 13), (.t 18)])⟩, ⟨none, (.mov 8 (.t 19))⟩, ⟨none, (.extr 20 (.t 8) 0)⟩, ⟨none, (.extr 21 (.t 8) 1)⟩, ⟨none, (.mov 5 (.t 20))⟩, ⟨none, (.mov 6 (.t 21))⟩]
theorem uf86r16 : type_of% @f86r16.eq_1 := id @f86r16.eq_1
def f86b17 : AQ := (.seq (.region f86r16) f86b15)
theorem uf86b17 (P ts os Q) : awl P f86b17 Q ts os = awl P (.seq (.region f86r16) f86b15) Q ts os := id rfl
def f86r18 : List AI := [⟨none, (.mov 4 (.v (.k (.c (.int .i64 0)))))⟩]
theorem uf86r18 : type_of% @f86r18.eq_1 := id @f86r18.eq_1
def f86b19 : AQ := (.seq (.region f86r18) f86b17)
theorem uf86b19 (P ts os Q) : awl P f86b19 Q ts os = awl P (.seq (.region f86r18) f86b17) Q ts os := id rfl
def f86 : AQ := f86b19
theorem uf86 (P ts os Q) : awl P f86 Q ts os = awl P f86b19 Q ts os := id rfl
theorem hf86 : cFunc Tryd.prog 86 = some ⟨38, f86.erase, [(RX.t 4)]⟩ := by kernel_rfl
theorem okf86 : f86.ok = true := by kernel_rfl
def f93r1 : List AI := [⟨none, (.mov 48 (.t 0))⟩, ⟨none, (.mov 49 (.t 1))⟩, ⟨none, (.bin 50 .mul (.t 48) (.t 49))⟩, ⟨none, (.mov 5 (.t 50))⟩]
theorem uf93r1 : type_of% @f93r1.eq_1 := id @f93r1.eq_1
def f93b2 : AQ := (.seq (.region f93r1) .ret)
theorem uf93b2 (P ts os Q) : awl P f93b2 Q ts os = awl P (.seq (.region f93r1) .ret) Q ts os := id rfl
def f93r3 : List AI := [⟨none, (.mov 40 (.t 7))⟩, ⟨none, (.mov 41 (.t 9))⟩, ⟨none, (.bin 42 .mul (.t 40) (.t 41))⟩, ⟨none, (.mov 43 (.t 13))⟩, ⟨none, (.bin 44 .add (.t 42) (.t 43))⟩, ⟨none, (.mov 45 (.t 12))⟩, ⟨none, (.bin 46 .shr (.t 45) (.v (.k (.c (.int .u64 32)))))⟩, ⟨none, (.bin 47 .add (.t 44) (.t 46))⟩, ⟨none, (.mov 4 (.t 47))⟩]
theorem uf93r3 : type_of% @f93r3.eq_1 := id @f93r3.eq_1
def f93b4 : AQ := (.seq (.region f93r3) f93b2)
theorem uf93b4 (P ts os Q) : awl P f93b4 Q ts os = awl P (.seq (.region f93r3) f93b2) Q ts os := id rfl
def f93r5 : List AI := [⟨none, (.mov 35 (.t 12))⟩, ⟨none, (.mov 36 (.t 6))⟩, ⟨none, (.mov 37 (.t 9))⟩, ⟨none, (.bin 38 .mul (.t 36) (.t 37))⟩, ⟨none, (.bin 39 .add (.t 35) (.t 38))⟩, ⟨none, (.mov 12 (.t 39))⟩]
theorem uf93r5 : type_of% @f93r5.eq_1 := id @f93r5.eq_1
def f93b6 : AQ := (.seq (.region f93r5) f93b4)
theorem uf93b6 (P ts os Q) : awl P f93b6 Q ts os = awl P (.seq (.region f93r5) f93b4) Q ts os := id rfl
def f93r7 : List AI := [⟨none, (.mov 33 (.t 11))⟩, ⟨none, (.bin 34 .shr (.t 33) (.v (.k (.c (.int .u64 32)))))⟩, ⟨none, (.mov 13 (.t 34))⟩]
theorem uf93r7 : type_of% @f93r7.eq_1 := id @f93r7.eq_1
def f93b8 : AQ := (.seq (.region f93r7) f93b6)
theorem uf93b8 (P ts os Q) : awl P f93b8 Q ts os = awl P (.seq (.region f93r7) f93b6) Q ts os := id rfl
def f93r9 : List AI := [⟨none, (.mov 31 (.t 11))⟩, ⟨none, (.bin 32 .and (.t 31) (.v (.k (.c (.int .u64 4294967295)))))⟩, ⟨none, (.mov 12 (.t 32))⟩]
theorem uf93r9 : type_of% @f93r9.eq_1 := id @f93r9.eq_1
def f93b10 : AQ := (.seq (.region f93r9) f93b8)
theorem uf93b10 (P ts os Q) : awl P f93b10 Q ts os = awl P (.seq (.region f93r9) f93b8) Q ts os := id rfl
def f93r11 : List AI := [⟨none, (.mov 25 (.t 7))⟩, ⟨none, (.mov 26 (.t 8))⟩, ⟨none, (.bin 27 .mul (.t 25) (.t 26))⟩, ⟨none, (.mov 28 (.t 10))⟩, ⟨none, (.bin 29 .shr (.t 28) (.v (.k (.c (.int .u64 32)))))⟩, ⟨none, (.bin 30 .add (.t 27) (.t 29))⟩, ⟨none, (.mov 11 (.t 30))⟩]
theorem uf93r11 : type_of% @f93r11.eq_1 := id @f93r11.eq_1
def f93b12 : AQ := (.seq (.region f93r11) f93b10)
theorem uf93b12 (P ts os Q) : awl P f93b12 Q ts os = awl P (.seq (.region f93r11) f93b10) Q ts os := id rfl
def f93r13 : List AI := [⟨none, (.mov 22 (.t 6))⟩, ⟨none, (.mov 23 (.t 8))⟩, ⟨none, (.bin 24 .mul (.t 22) (.t 23))⟩, ⟨none, (.mov 10 (.t 24))⟩]
theorem uf93r13 : type_of% @f93r13.eq_1 := id @f93r13.eq_1
def f93b14 : AQ := (.seq (.region f93r13) f93b12)
theorem uf93b14 (P ts os Q) : awl P f93b14 Q ts os = awl P (.seq (.region f93r13) f93b12) Q ts os := id rfl
def f93r15 : List AI := [⟨none, (.mov 20 (.t 1))⟩, ⟨none, (.bin 21 .shr (.t 20) (.v (.k (.c (.int .u64 32)))))⟩, ⟨none, (.mov 9 (.t 21))⟩]
theorem uf93r15 : type_of% @f93r15.eq_1 := id @f93r15.eq_1
def f93b16 : AQ := (.seq (.region f93r15) f93b14)
theorem uf93b16 (P ts os Q) : awl P f93b16 Q ts os = awl P (.seq (.region f93r15) f93b14) Q ts os := id rfl
def f93r17 : List AI := [⟨none, (.mov 18 (.t 1))⟩, ⟨none, (.bin 19 .and (.t 18) (.v (.k (.c (.int .u64 4294967295)))))⟩, ⟨none, (.mov 8 (.t 19))⟩]
theorem uf93r17 : type_of% @f93r17.eq_1 := id @f93r17.eq_1
def f93b18 : AQ := (.seq (.region f93r17) f93b16)
theorem uf93b18 (P ts os Q) : awl P f93b18 Q ts os = awl P (.seq (.region f93r17) f93b16) Q ts os := id rfl
def f93r19 : List AI := [⟨none, (.mov 16 (.t 0))⟩, ⟨none, (.bin 17 .shr (.t 16) (.v (.k (.c (.int .u64 32)))))⟩, ⟨none, (.mov 7 (.t 17))⟩]
theorem uf93r19 : type_of% @f93r19.eq_1 := id @f93r19.eq_1
def f93b20 : AQ := (.seq (.region f93r19) f93b18)
theorem uf93b20 (P ts os Q) : awl P f93b20 Q ts os = awl P (.seq (.region f93r19) f93b18) Q ts os := id rfl
def f93r21 : List AI := [⟨none, (.mov 14 (.t 0))⟩, ⟨none, (.bin 15 .and (.t 14) (.v (.k (.c (.int .u64 4294967295)))))⟩, ⟨none, (.mov 6 (.t 15))⟩]
theorem uf93r21 : type_of% @f93r21.eq_1 := id @f93r21.eq_1
def f93b22 : AQ := (.seq (.region f93r21) f93b20)
theorem uf93b22 (P ts os Q) : awl P f93b22 Q ts os = awl P (.seq (.region f93r21) f93b20) Q ts os := id rfl
def f93r23 : List AI := [⟨none, (.mov 4 (.v (.k (.c (.int .u64 0)))))⟩, ⟨none, (.mov 5 (.v (.k (.c (.int .u64 0)))))⟩]
theorem uf93r23 : type_of% @f93r23.eq_1 := id @f93r23.eq_1
def f93b24 : AQ := (.seq (.region f93r23) f93b22)
theorem uf93b24 (P ts os Q) : awl P f93b24 Q ts os = awl P (.seq (.region f93r23) f93b22) Q ts os := id rfl
def f93 : AQ := f93b24
theorem uf93 (P ts os Q) : awl P f93 Q ts os = awl P f93b24 Q ts os := id rfl
theorem hf93 : cFunc Tryd.prog 93 = some ⟨51, f93.erase, [(RX.t 4), (RX.t 5)]⟩ := by kernel_rfl
theorem okf93 : f93.ok = true := by kernel_rfl
def f3r1 : List AI := [⟨none, (.mov 94 (.t 7))⟩, ⟨none, (.mov 95 (.t 94))⟩, ⟨(some (95, true)), (.load 96 4 true (.t 3))⟩, ⟨(some (95, true)), (.mov 97 (.t 1))⟩, ⟨(some (95, true)), (.mov 98 (.t 2))⟩, ⟨(some (95, true)), (.call (some 99) 16 [(.t 96), (.t 97), (.t 98)])⟩, ⟨(some (95, true)), (.load 100 4 true (.t 3))⟩, ⟨(some (95, true)), (.mov 101 (.t 1))⟩, ⟨(some (95, true)), (.mov 102 (.t 2))⟩, ⟨(some (95, true)), (.call (some 103) 17 [(.t 100), (.t 101), (.t 102)])⟩, ⟨(some (95, true)), (.call (some 104) 15 [(.t 99), (.t 103)])⟩, ⟨none, (.pick 105 (.t 95) (.t 104) (.v (.k (.c (.bool false)))))⟩, ⟨none, (.mov 106 (.t 105))⟩, ⟨(some (106, true)), (.load 107 4 true (.t 3))⟩, ⟨(some (106, true)), (.mov 108 (.t 1))⟩, ⟨(some (106, true)), (.call (some 109) 18 [(.t 107), (.t 108)])⟩, ⟨(some (106, true)), (.load 110 4 true (.t 3))⟩, ⟨(some (106, true)), (.mov 111 (.t 1))⟩, ⟨(some (106, true)), (.call (some 112) 19 [(.t 110), (.t 111)])⟩, ⟨(some (106, true)), (.call (some 113) 15 [(.t 109), (.t 112)])⟩, ⟨none, (.pick 114 (.t 106) (.t 113) (.v (.k (.c (.bool false)))))⟩, ⟨none, (.mov 6 (.t 114))⟩]
theorem uf3r1 : type_of% @f3r1.eq_1 := id @f3r1.eq_1
def f3b2 : AQ := (.seq (.draw f3r1 [[], [0], [1], [1], [1], [2, 3, 4, 1, 1], [1], [1], [1], [6, 7, 8, 5, 1], [5, 9, 9, 1], [1, 10], [11, 10], [12], [12], [13, 14, 12, 12], [12], [12], [16, 17, 15, 12], [15, 18, 18, 12], [12, 19], [20, 19, 0, 1, 2, 3, 4, 5, 6, 7, 8, 9, 10, 11, 12, 13, 14, 15, 16, 17, 18, 19, 20]]) .ret)
theorem uf3b2 (P ts os Q) : awl P f3b2 Q ts os = awl P (.seq (.draw f3r1 [[], [0], [1], [1], [1], [2, 3, 4, 1, 1], [1], [1], [1], [6, 7, 8, 5, 1], [5, 9, 9, 1], [1, 10], [11, 10], [12], [12], [13, 14, 12, 12], [12], [12], [16, 17, 15, 12], [15, 18, 18, 12], [12, 19], [20, 19, 0, 1, 2, 3, 4, 5, 6, 7, 8, 9, 10, 11, 12, 13, 14, 15, 16, 17, 18, 19, 20]]) .ret) Q ts os := id rfl
def f3r3 : List AI := [⟨none, (.mov 6 (.v (.k (.c (.bool false)))))⟩]
theorem uf3r3 : type_of% @f3r3.eq_1 := id @f3r3.eq_1
def f3b4 : AQ := (.seq (.region f3r3) .ret)
theorem uf3b4 (P ts os Q) : awl P f3b4 Q ts os = awl P (.seq (.region f3r3) .ret) Q ts os := id rfl
def f3b5 : AQ := (.cond (.t 93) f3b4 .skip)
theorem uf3b5 (P ts os Q) : awl P f3b5 Q ts os = awl P (.cond (.t 93) f3b4 .skip) Q ts os := id rfl
def f3r6 : List AI := [⟨none, (.load 66 2 true (.t 8))⟩, ⟨none, (.load 67 2 true (.t 10))⟩, ⟨none, (.eqAgg 68 true [.bool, .int] (.t 66) (.t 67))⟩, ⟨none, (.mov 69 (.t 68))⟩, ⟨(some (69, false)), (.mov 70 (.t 9))⟩, ⟨(some (69, false)), (.mov 71 (.t 11))⟩, ⟨(some (69, false)), (.bin 72 .neq (.t 70) (.t 71))⟩, ⟨none, (.pick 73 (.t 69) (.v (.k (.c (.bool true)))) (.t 72))⟩, ⟨none, (.mov 74 (.t 73))⟩, ⟨(some (74, false)), (.load 75 3 true (.t 12))⟩, ⟨(some (74, false)), (.load 76 3 true (.t 14))⟩, ⟨(some (74, false)), (.eqAgg 77 true [.int, .int, .bool] (.t 75) (.t 76))⟩, ⟨none, (.pick 78 (.t 74) (.v (.k (.c (.bool true)))) (.t 77))⟩, ⟨none, (.mov 79 (.t 78))⟩, ⟨(some (79, false)), (.mov 80 (.t 13))⟩, ⟨(some (79, false)), (.mov 81 (.t 15))⟩, ⟨(some (79, false)), (.bin 82 .neq (.t 80) (.t 81))⟩, ⟨none, (.pick 83 (.t 79) (.v (.k (.c (.bool true)))) (.t 82))⟩, ⟨none, (.mov 84 (.t 83))⟩, ⟨(some (84, false)), (.mov 85 (.t 16))⟩, ⟨(some (84, false)), (.mov 86 (.t 18))⟩, ⟨(some (84, false)), (.bin 87 .neq (.t 85) (.t 86))⟩, ⟨none, (.pick 88 (.t 84) (.v (.k (.c (.bool true)))) (.t 87))⟩, ⟨none, (.mov 89 (.t 88))⟩, ⟨(some (89, false)), (.mov 90 (.t 17))⟩, ⟨(some (89, false)), (.mov 91 (.t 19))⟩, ⟨(some (89, false)), (.binB 92 true (.t 90) (.t 91))⟩, ⟨none, (.pick 93 (.t 89) (.v (.k (.c (.bool true)))) (.t 92))⟩]
theorem uf3r6 : type_of% @f3r6.eq_1 := id @f3r6.eq_1
def f3b7 : AQ := (.seq (.region f3r6) f3b5)
theorem uf3b7 (P ts os Q) : awl P f3b7 Q ts os = awl P (.seq (.region f3r6) f3b5) Q ts os := id rfl
def f3b8 : AQ := (.seq f3b7 f3b2)
theorem uf3b8 (P ts os Q) : awl P f3b8 Q ts os = awl P (.seq f3b7 f3b2) Q ts os := id rfl
def f3r9 : List AI := [⟨none, (.mov 62 (.t 1))⟩, ⟨none, (.call (some 63) 14 [(.t 62)])⟩, ⟨none, (.mov 61 (.t 63))⟩, ⟨none, (.extr 64 (.t 61) 0)⟩, ⟨none, (.extr 65 (.t 61) 1)⟩, ⟨none, (.mov 18 (.t 64))⟩, ⟨none, (.mov 19 (.t 65))⟩]
theorem uf3r9 : type_of% @f3r9.eq_1 := id @f3r9.eq_1
def f3b10 : AQ := (.seq (.region f3r9) f3b8)
theorem uf3b10 (P ts os Q) : awl P f3b10 Q ts os = awl P (.seq (.region f3r9) f3b8) Q ts os := id rfl
def f3r11 : List AI := [⟨none, (.mov 57 (.t 1))⟩, ⟨none, (.call (some 58) 13 [(.t 57)])⟩, ⟨none, (.mov 56 (.t 58))⟩, ⟨none, (.extr 59 (.t 56) 0)⟩, ⟨none, (.extr 60 (.t 56) 1)⟩, ⟨none, (.mov 16 (.t 59))⟩, ⟨none, (.mov 17 (.t 60))⟩]
theorem uf3r11 : type_of% @f3r11.eq_1 := id @f3r11.eq_1
def f3b12 : AQ := (.seq (.region f3r11) f3b10)
theorem uf3b12 (P ts os Q) : awl P f3b12 Q ts os = awl P (.seq (.region f3r11) f3b10) Q ts os := id rfl
def f3r13 : List AI := [⟨none, (.load 51 4 true (.t 3))⟩, ⟨none, (.mov 52 (.t 1))⟩, ⟨none, (.call (some 53) 12 [(.t 51), (.t 52)])⟩, ⟨none, (.mov 50 (.t 53))⟩, ⟨none, (.extr 54 (.t 50) 0)⟩, ⟨none, (.extr 55 (.t 50) 1)⟩, ⟨none, (.alloc 14 35 [(.int .i64 0), (.int .i64 0), (.bool false)])⟩, ⟨none, (.store 3 (.t 14) (.t 54))⟩, ⟨none, (.mov 15 (.t 55))⟩]
theorem uf3r13 : type_of% @f3r13.eq_1 := id @f3r13.eq_1
def f3b14 : AQ := (.seq (.region f3r13) f3b12)
theorem uf3b14 (P ts os Q) : awl P f3b14 Q ts os = awl P (.seq (.region f3r13) f3b12) Q ts os := id rfl
def f3r15 : List AI := [⟨none, (.load 45 4 true (.t 3))⟩, ⟨none, (.mov 46 (.t 1))⟩, ⟨none, (.call (some 47) 11 [(.t 45), (.t 46)])⟩, ⟨none, (.mov 44 (.t 47))⟩, ⟨none, (.extr 48 (.t 44) 0)⟩, ⟨none, (.extr 49 (.t 44) 1)⟩, ⟨none, (.alloc 12 35 [(.int .i64 0), (.int .i64 0), (.bool false)])⟩, ⟨none, (.store 3 (.t 12) (.t 48))⟩, ⟨none, (.mov 13 (.t 49))⟩]
theorem uf3r15 : type_of% @f3r15.eq_1 := id @f3r15.eq_1
def f3b16 : AQ := (.seq (.region f3r15) f3b14)
theorem uf3b16 (P ts os Q) : awl P f3b16 Q ts os = awl P (.seq (.region f3r15) f3b14) Q ts os := id rfl
def f3r17 : List AI := [⟨none, (.load 38 4 true (.t 3))⟩, ⟨none, (.mov 39 (.t 1))⟩, ⟨none, (.mov 40 (.t 2))⟩, ⟨none, (.call (some 41) 10 [(.t 38), (.t 39), (.t 40)])⟩, ⟨none, (.mov 37 (.t 41))⟩, ⟨none, (.extr 42 (.t 37) 0)⟩, ⟨none, (.extr 43 (.t 37) 1)⟩, ⟨none, (.alloc 10 30 [(.bool false), (.int .i64 0)])⟩, ⟨none, (.store 2 (.t 10) (.t 42))⟩, ⟨none, (.mov 11 (.t 43))⟩]
theorem uf3r17 : type_of% @f3r17.eq_1 := id @f3r17.eq_1
def f3b18 : AQ := (.seq (.region f3r17) f3b16)
theorem uf3b18 (P ts os Q) : awl P f3b18 Q ts os = awl P (.seq (.region f3r17) f3b16) Q ts os := id rfl
def f3r19 : List AI := [⟨none, (.load 31 4 true (.t 3))⟩, ⟨none, (.mov 32 (.t 1))⟩, ⟨none, (.mov 33 (.t 2))⟩, ⟨none, (.call (some 34) 9 [(.t 31), (.t 32), (.t 33)])⟩, ⟨none, (.mov 30 (.t 34))⟩, ⟨none, (.extr 35 (.t 30) 0)⟩, ⟨none, (.extr 36 (.t 30) 1)⟩, ⟨none, (.alloc 8 30 [(.bool false), (.int .i64 0)])⟩, ⟨none, (.store 2 (.t 8) (.t 35))⟩, ⟨none, (.mov 9 (.t 36))⟩]
theorem uf3r19 : type_of% @f3r19.eq_1 := id @f3r19.eq_1
def f3b20 : AQ := (.seq (.region f3r19) f3b18)
theorem uf3b20 (P ts os Q) : awl P f3b20 Q ts os = awl P (.seq (.region f3r19) f3b18) Q ts os := id rfl
def f3r21 : List AI := [⟨none, (.mov 29 (.t 7))⟩, ⟨none, (.mov 6 (.t 29))⟩]
theorem uf3r21 : type_of% @f3r21.eq_1 := id @f3r21.eq_1
def f3b22 : AQ := (.seq (.region f3r21) .ret)
theorem uf3b22 (P ts os Q) : awl P f3b22 Q ts os = awl P (.seq (.region f3r21) .ret) Q ts os := id rfl
def f3b23 : AQ := (.cond (.t 28) f3b22 .skip)
theorem uf3b23 (P ts os Q) : awl P f3b23 Q ts os = awl P (.cond (.t 28) f3b22 .skip) Q ts os := id rfl
def f3r24 : List AI := [⟨none, (.load 21 4 true (.t 3))⟩, ⟨none, (.call (some 22) 8 [(.t 21)])⟩, ⟨none, (.un 23 .not (.t 22))⟩, ⟨none, (.mov 24 (.t 23))⟩, ⟨(some (24, false)), (.mov 25 (.t 2))⟩, ⟨(some (24, false)), (.len 26 (.t 25))⟩, ⟨(some (24, false)), (.bin 27 .gtr (.t 26) (.v (.k (.c (.int .i64 100)))))⟩, ⟨none, (.pick 28 (.t 24) (.v (.k (.c (.bool true)))) (.t 27))⟩]
theorem uf3r24 : type_of% @f3r24.eq_1 := id @f3r24.eq_1
def f3b25 : AQ := (.seq (.region f3r24) f3b23)
theorem uf3b25 (P ts os Q) : awl P f3b25 Q ts os = awl P (.seq (.region f3r24) f3b23) Q ts os := id rfl
def f3b26 : AQ := (.seq f3b25 f3b20)
theorem uf3b26 (P ts os Q) : awl P f3b26 Q ts os = awl P (.seq f3b25 f3b20) Q ts os := id rfl
def f3r27 : List AI := [⟨none, (.call (some 20) 7 [])⟩, ⟨none, (.mov 7 (.t 20))⟩]
theorem uf3r27 : type_of% @f3r27.eq_1 := id @f3r27.eq_1
def f3b28 : AQ := (.seq (.region f3r27) f3b26)
theorem uf3b28 (P ts os Q) : awl P f3b28 Q ts os = awl P (.seq (.region f3r27) f3b26) Q ts os := id rfl
def f3r29 : List AI := [⟨none, (.box 3 25 (.t 0))⟩, ⟨none, (.mov 6 (.v (.k (.c (.bool false)))))⟩]
theorem uf3r29 : type_of% @f3r29.eq_1 := id @f3r29.eq_1
def f3b30 : AQ := (.seq (.region f3r29) f3b28)
theorem uf3b30 (P ts os Q) : awl P f3b30 Q ts os = awl P (.seq (.region f3r29) f3b28) Q ts os := id rfl
def f3 : AQ := f3b30
theorem uf3 (P ts os Q) : awl P f3 Q ts os = awl P f3b30 Q ts os := id rfl
theorem hf3 : cFunc Tryd.prog 3 = some ⟨115, f3.erase, [(RX.t 6)]⟩ := by kernel_rfl
theorem okf3 : f3.ok = true := by kernel_rfl
def f7r1 : List AI := [⟨none, (.load 130 4 true (.t 1))⟩, ⟨none, (.call (some 131) 23 [(.v (.k (.c (.int .i64 15)))), (.v (.k (.c (.int .i64 0))))])⟩, ⟨none, (.call (some 132) 16 [(.t 130), (.v (.k (.c (.int .i64 2)))), (.t 131)])⟩, ⟨none, (.len 133 (.t 132))⟩, ⟨none, (.bin 134 .eql (.t 133) (.v (.k (.c (.int .i64 0)))))⟩, ⟨none, (.mov 135 (.t 134))⟩, ⟨(some (135, true)), (.mov 136 (.t 19))⟩, ⟨(some (135, true)), (.bslice 137 3 1 [(.int .i64 0)] 1 [(0, (.v (.k (.c (.int .i64 17)))))])⟩, ⟨(some (135, true)), (.call (some 138) 15 [(.t 136), (.t 137)])⟩, ⟨none, (.pick 139 (.t 135) (.t 138) (.v (.k (.c (.bool false)))))⟩, ⟨none, (.mov 140 (.t 139))⟩, ⟨(some (140, true)), (.mov 141 (.t 20))⟩, ⟨(some (140, true)), (.bslice 142 3 1 [(.int .i64 0)] 1 [(0, (.v (.k (.c (.int .i64 10)))))])⟩, ⟨(some (140, true)), (.call (some 143) 15 [(.t 141), (.t 142)])⟩, ⟨none, (.pick 144 (.t 140) (.t 143) (.v (.k (.c (.bool false)))))⟩, ⟨none, (.mov 0 (.t 144))⟩]
theorem uf7r1 : type_of% @f7r1.eq_1 := id @f7r1.eq_1
def f7b2 : AQ := (.seq (.draw f7r1 [[], [], [0, 1, 1], [2], [3], [4, 2], [5], [5], [6, 7, 5, 5], [5, 8], [9, 8], [10], [10], [11, 12, 10, 10], [10, 13], [14, 13, 0, 1, 2, 3, 4, 5, 6, 7, 8, 9, 10, 11, 12, 13, 14]]) .ret)
theorem uf7b2 (P ts os Q) : awl P f7b2 Q ts os = awl P (.seq (.draw f7r1 [[], [], [0, 1, 1], [2], [3], [4, 2], [5], [5], [6, 7, 5, 5], [5, 8], [9, 8], [10], [10], [11, 12, 10, 10], [10, 13], [14, 13, 0, 1, 2, 3, 4, 5, 6, 7, 8, 9, 10, 11, 12, 13, 14]]) .ret) Q ts os := id rfl
def f7r3 : List AI := [⟨none, (.load 128 4 true (.t 1))⟩, ⟨none, (.call (some 129) 18 [(.t 128), (.v (.k (.c (.int .i64 6))))])⟩, ⟨none, (.mov 20 (.t 129))⟩]
theorem uf7r3 : type_of% @f7r3.eq_1 := id @f7r3.eq_1
def f7b4 : AQ := (.seq (.region f7r3) f7b2)
theorem uf7b4 (P ts os Q) : awl P f7b4 Q ts os = awl P (.seq (.region f7r3) f7b2) Q ts os := id rfl
def f7r5 : List AI := [⟨none, (.load 125 4 true (.t 1))⟩, ⟨none, (.call (some 126) 23 [(.v (.k (.c (.int .i64 15)))), (.v (.k (.c (.int .i64 1))))])⟩, ⟨none, (.call (some 127) 16 [(.t 125), (.v (.k (.c (.int .i64 2)))), (.t 126)])⟩, ⟨none, (.mov 19 (.t 127))⟩]
theorem uf7r5 : type_of% @f7r5.eq_1 := id @f7r5.eq_1
def f7b6 : AQ := (.seq (.draw f7r5 [[], [], [0, 1, 1], [2, 2, 0, 1, 2]]) f7b4)
theorem uf7b6 (P ts os Q) : awl P f7b6 Q ts os = awl P (.seq (.draw f7r5 [[], [], [0, 1, 1], [2, 2, 0, 1, 2]]) f7b4) Q ts os := id rfl
def f7r7 : List AI := [⟨none, (.mov 0 (.v (.k (.c (.bool false)))))⟩]
def f7b8 : AQ := (.seq (.region f7r7) .ret)
def f7b9 : AQ := (.cond (.t 124) f7b8 .skip)
theorem uf7b9 (P ts os Q) : awl P f7b9 Q ts os = awl P (.cond (.t 124) f7b8 .skip) Q ts os := id rfl
def f7r10 : List AI := [⟨none, (.load 97 2 true (.t 2))⟩, ⟨none, (.load 98 2 true (.t 18))⟩, ⟨none, (.eqAgg 99 true [.bool, .int] (.t 97) (.t 98))⟩, ⟨none, (.mov 100 (.t 99))⟩, ⟨(some (100, false)), (.load 101 2 true (.t 4))⟩, ⟨(some (100, false)), (.build 102 [(.bool false), (.int .i64 0)] [])⟩, ⟨(some (100, false)), (.eqAgg 103 true [.bool, .int] (.t 101) (.t 102))⟩, ⟨none, (.pick 104 (.t 100) (.v (.k (.c (.bool true)))) (.t 103))⟩, ⟨none, (.mov 105 (.t 104))⟩, ⟨(some (105, false)), (.load 106 2 true (.t 6))⟩, ⟨(some (105, false)), (.build 107 [(.bool false), (.int .i64 0)] [(0, (1, (.v (.k (.c (.bool true)))))), (1, (1, (.v (.k (.c (.int .i64 20000))))))])⟩, ⟨(some (105, false)), (.eqAgg 108 true [.bool, .int] (.t 106) (.t 107))⟩, ⟨none, (.pick 109 (.t 105) (.v (.k (.c (.bool true)))) (.t 108))⟩, ⟨none, (.mov 110 (.t 109))⟩, ⟨(some (110, false)), (.load 111 2 true (.t 8))⟩, ⟨(some (110, false)), (.load 112 2 true (.t 18))⟩, ⟨(some (110, false)), (.eqAgg 113 true [.bool, .int] (.t 111) (.t 112))⟩, ⟨none, (.pick 114 (.t 110) (.v (.k (.c (.bool true)))) (.t 113))⟩, ⟨none, (.mov 115 (.t 114))⟩, ⟨(some (115, false)), (.faddr 116 1 (.t 14))⟩, ⟨(some (115, false)), (.load 117 1 false (.t 116))⟩, ⟨(some (115, false)), (.bin 118 .neq (.t 117) (.v (.k (.c (.int .i64 2)))))⟩, ⟨none, (.pick 119 (.t 115) (.v (.k (.c (.bool true)))) (.t 118))⟩, ⟨none, (.mov 120 (.t 119))⟩, ⟨(some (120, false)), (.faddr 121 1 (.t 16))⟩, ⟨(some (120, false)), (.load 122 1 false (.t 121))⟩, ⟨(some (120, false)), (.bin 123 .neq (.t 122) (.v (.k (.c (.int .i64 0)))))⟩, ⟨none, (.pick 124 (.t 120) (.v (.k (.c (.bool true)))) (.t 123))⟩]
theorem uf7r10 : type_of% @f7r10.eq_1 := id @f7r10.eq_1
def f7b11 : AQ := (.seq (.region f7r10) f7b9)
theorem uf7b11 (P ts os Q) : awl P f7b11 Q ts os = awl P (.seq (.region f7r10) f7b9) Q ts os := id rfl
def f7b12 : AQ := (.seq f7b11 f7b6)
theorem uf7b12 (P ts os Q) : awl P f7b12 Q ts os = awl P (.seq f7b11 f7b6) Q ts os := id rfl
def f7r13 : List AI := [⟨none, (.mov 0 (.v (.k (.c (.bool false)))))⟩]
def f7b14 : AQ := (.seq (.region f7r13) .ret)
def f7b15 : AQ := (.cond (.t 96) f7b14 .skip)
theorem uf7b15 (P ts os Q) : awl P f7b15 Q ts os = awl P (.cond (.t 96) f7b14 .skip) Q ts os := id rfl
def f7r16 : List AI := [⟨none, (.mov 67 (.t 3))⟩, ⟨none, (.bin 68 .neq (.t 67) (.v (.k (.c (.int .i64 0)))))⟩, ⟨none, (.mov 69 (.t 68))⟩, ⟨(some (69, false)), (.mov 70 (.t 5))⟩, ⟨(some (69, false)), (.bin 71 .neq (.t 70) (.v (.k (.c (.int .i64 0)))))⟩, ⟨none, (.pick 72 (.t 69) (.v (.k (.c (.bool true)))) (.t 71))⟩, ⟨none, (.mov 73 (.t 72))⟩, ⟨(some (73, false)), (.mov 74 (.t 7))⟩, ⟨(some (73, false)), (.bin 75 .neq (.t 74) (.v (.k (.c (.int .i64 0)))))⟩, ⟨none, (.pick 76 (.t 73) (.v (.k (.c (.bool true)))) (.t 75))⟩, ⟨none, (.mov 77 (.t 76))⟩, ⟨(some (77, false)), (.mov 78 (.t 9))⟩, ⟨(some (77, false)), (.bin 79 .neq (.t 78) (.v (.k (.c (.int .i64 0)))))⟩, ⟨none, (.pick 80 (.t 77) (.v (.k (.c (.bool true)))) (.t 79))⟩, ⟨none, (.mov 81 (.t 80))⟩, ⟨(some (81, false)), (.mov 82 (.t 11))⟩, ⟨(some (81, false)), (.bin 83 .neq (.t 82) (.v (.k (.c (.int .i64 4)))))⟩, ⟨none, (.pick 84 (.t 81) (.v (.k (.c (.bool true)))) (.t 83))⟩, ⟨none, (.mov 85 (.t 84))⟩, ⟨(some (85, false)), (.mov 86 (.t 13))⟩, ⟨(some (85, false)), (.bin 87 .neq (.t 86) (.v (.k (.c (.int .i64 1)))))⟩, ⟨none, (.pick 88 (.t 85) (.v (.k (.c (.bool true)))) (.t 87))⟩, ⟨none, (.mov 89 (.t 88))⟩, ⟨(some (89, false)), (.mov 90 (.t 15))⟩, ⟨(some (89, false)), (.bin 91 .neq (.t 90) (.v (.k (.c (.int .i64 0)))))⟩, ⟨none, (.pick 92 (.t 89) (.v (.k (.c (.bool true)))) (.t 91))⟩, ⟨none, (.mov 93 (.t 92))⟩, ⟨(some (93, false)), (.mov 94 (.t 17))⟩, ⟨(some (93, false)), (.bin 95 .neq (.t 94) (.v (.k (.c (.int .i64 0)))))⟩, ⟨none, (.pick 96 (.t 93) (.v (.k (.c (.bool true)))) (.t 95))⟩]
theorem uf7r16 : type_of% @f7r16.eq_1 := id @f7r16.eq_1
def f7b17 : AQ := (.seq (.region f7r16) f7b15)
theorem uf7b17 (P ts os Q) : awl P f7b17 Q ts os = awl P (.seq (.region f7r16) f7b15) Q ts os := id rfl
def f7b18 : AQ := (.seq f7b17 f7b12)
theorem uf7b18 (P ts os Q) : awl P f7b18 Q ts os = awl P (.seq f7b17 f7b12) Q ts os := id rfl
def f7r19 : List AI := [⟨none, (.build 66 [(.bool false), (.int .i64 0)] [(0, (1, (.v (.k (.c (.bool true))))))])⟩, ⟨none, (.alloc 18 30 [(.bool false), (.int .i64 0)])⟩, ⟨none, (.store 2 (.t 18) (.t 66))⟩]
theorem uf7r19 : type_of% @f7r19.eq_1 := id @f7r19.eq_1
def f7b20 : AQ := (.seq (.region f7r19) f7b18)
theorem uf7b20 (P ts os Q) : awl P f7b20 Q ts os = awl P (.seq (.region f7r19) f7b18) Q ts os := id rfl
def f7r21 : List AI := [⟨none, (.load 62 4 true (.t 1))⟩, ⟨none, (.call (some 63) 11 [(.t 62), (.v (.k (.c (.int .i64 2))))])⟩, ⟨none, (.mov 61 (.t 63))⟩, ⟨none, (.extr 64 (.t 61) 0)⟩, ⟨none, (.extr 65 (.t 61) 1)⟩, ⟨none, (.alloc 16 35 [(.int .i64 0), (.int .i64 0), (.bool false)])⟩, ⟨none, (.store 3 (.t 16) (.t 64))⟩, ⟨none, (.mov 17 (.t 65))⟩]
theorem uf7r21 : type_of% @f7r21.eq_1 := id @f7r21.eq_1
def f7b22 : AQ := (.seq (.region f7r21) f7b20)
theorem uf7b22 (P ts os Q) : awl P f7b22 Q ts os = awl P (.seq (.region f7r21) f7b20) Q ts os := id rfl
def f7r23 : List AI := [⟨none, (.load 57 4 true (.t 1))⟩, ⟨none, (.call (some 58) 11 [(.t 57), (.v (.k (.c (.int .i64 6))))])⟩, ⟨none, (.mov 56 (.t 58))⟩, ⟨none, (.extr 59 (.t 56) 0)⟩, ⟨none, (.extr 60 (.t 56) 1)⟩, ⟨none, (.alloc 14 35 [(.int .i64 0), (.int .i64 0), (.bool false)])⟩, ⟨none, (.store 3 (.t 14) (.t 59))⟩, ⟨none, (.mov 15 (.t 60))⟩]
theorem uf7r23 : type_of% @f7r23.eq_1 := id @f7r23.eq_1
def f7b24 : AQ := (.seq (.region f7r23) f7b22)
theorem uf7b24 (P ts os Q) : awl P f7b24 Q ts os = awl P (.seq (.region f7r23) f7b22) Q ts os := id rfl
def f7r25 : List AI := [⟨none, (.load 52 4 true (.t 1))⟩, ⟨none, (.call (some 53) 9 [(.t 52), (.v (.k (.c (.int .i64 22)))), (.v (.k (.c (.list 0 (some true) []))))])⟩, ⟨none, (.mov 51 (.t 53))⟩, ⟨none, (.extr 54 (.t 51) 0)⟩, ⟨none, (.extr 55 (.t 51) 1)⟩, ⟨none, (.alloc 12 30 [(.bool false), (.int .i64 0)])⟩, ⟨none, (.store 2 (.t 12) (.t 54))⟩, ⟨none, (.mov 13 (.t 55))⟩]
theorem uf7r25 : type_of% @f7r25.eq_1 := id @f7r25.eq_1
def f7b26 : AQ := (.seq (.region f7r25) f7b24)
theorem uf7b26 (P ts os Q) : awl P f7b26 Q ts os = awl P (.seq (.region f7r25) f7b24) Q ts os := id rfl
def f7r27 : List AI := [⟨none, (.load 47 4 true (.t 1))⟩, ⟨none, (.call (some 48) 9 [(.t 47), (.v (.k (.c (.int .i64 0)))), (.v (.k (.c (.list 0 (some true) []))))])⟩, ⟨none, (.mov 46 (.t 48))⟩, ⟨none, (.extr 49 (.t 46) 0)⟩, ⟨none, (.extr 50 (.t 46) 1)⟩, ⟨none, (.alloc 10 30 [(.bool false), (.int .i64 0)])⟩, ⟨none, (.store 2 (.t 10) (.t 49))⟩, ⟨none, (.mov 11 (.t 50))⟩]
theorem uf7r27 : type_of% @f7r27.eq_1 := id @f7r27.eq_1
def f7b28 : AQ := (.seq (.region f7r27) f7b26)
theorem uf7b28 (P ts os Q) : awl P f7b28 Q ts os = awl P (.seq (.region f7r27) f7b26) Q ts os := id rfl
def f7r29o0 : AI := ⟨none, (.load 41 4 true (.t 1))⟩
theorem uf7r29o0 : f7r29o0 = ⟨none, (.load 41 4 true (.t 1))⟩ := id rfl
def f7r29o1 : AI := ⟨none, (.call (some 42) 23 [(.v (.k (.c (.int .i64 10)))), (.v (.k (.c (.int .i64 1))))])⟩
theorem uf7r29o1 : f7r29o1 = ⟨none, (.call (some 42) 23 [(.v (.k (.c (.int .i64 10)))), (.v (.k (.c (.int .i64 1))))])⟩ := id rfl
def f7r29o2 : AI := ⟨none, (.call (some 43) 9 [(.t 41), (.v (.k (.c (.int .i64 6)))), (.t 42)])⟩
theorem uf7r29o2 : f7r29o2 = ⟨none, (.call (some 43) 9 [(.t 41), (.v (.k (.c (.int .i64 6)))), (.t 42)])⟩ := id rfl
def f7r29o3 : AI := ⟨none, (.mov 40 (.t 43))⟩
theorem uf7r29o3 : f7r29o3 = ⟨none, (.mov 40 (.t 43))⟩ := id rfl
def f7r29o4 : AI := ⟨none, (.extr 44 (.t 40) 0)⟩
theorem uf7r29o4 : f7r29o4 = ⟨none, (.extr 44 (.t 40) 0)⟩ := id rfl
def f7r29o5 : AI := ⟨none, (.extr 45 (.t 40) 1)⟩
theorem uf7r29o5 : f7r29o5 = ⟨none, (.extr 45 (.t 40) 1)⟩ := id rfl
def f7r29o6 : AI := ⟨none, (.alloc 8 30 [(.bool false), (.int .i64 0)])⟩
theorem uf7r29o6 : f7r29o6 = ⟨none, (.alloc 8 30 [(.bool false), (.int .i64 0)])⟩ := id rfl
def f7r29o7 : AI := ⟨none, (.store 2 (.t 8) (.t 44))⟩
theorem uf7r29o7 : f7r29o7 = ⟨none, (.store 2 (.t 8) (.t 44))⟩ := id rfl
def f7r29o8 : AI := ⟨none, (.mov 9 (.t 45))⟩
theorem uf7r29o8 : f7r29o8 = ⟨none, (.mov 9 (.t 45))⟩ := id rfl
def f7r29 : List AI := [f7r29o0, f7r29o1, f7r29o2, f7r29o3, f7r29o4, f7r29o5, f7r29o6, f7r29o7, f7r29o8]
theorem utf7r29 : treeOf f7r29 [[], [], [0, 1, 1], [2], [3], [3], [], [6, 4, 2, 0, 1, 2, 3, 4, 6], [5, 7, 0, 1, 2, 3, 4, 5, 6, 7]] = (.one f7r29o6 (.one f7r29o0 (.one f7r29o1 (.one f7r29o2 (.one f7r29o3 (.one f7r29o4 (.alt (.one f7r29o5 (.one f7r29o7 (.one f7r29o8 .done))) (.alt (.one f7r29o7 (.one f7r29o5 (.one f7r29o8 .done))) .top)))))))) := by kernel_rfl
def f7b30 : AQ := (.seq (.tree f7r29 [[], [], [0, 1, 1], [2], [3], [3], [], [6, 4, 2, 0, 1, 2, 3, 4, 6], [5, 7, 0, 1, 2, 3, 4, 5, 6, 7]]) (.keep [1, 2, 3, 4, 5, 6, 7, 8, 9] [1, 2, 4, 6, 8, 21, 24, 25, 30, 31, 36, 37, 42, 43, 22000, 22001, 22002, 25000, 25001, 25002, 26000, 26001, 26002, 31000, 31001, 31002, 32000, 32001, 32002, 37000, 37001, 37002, 38000, 38001, 38002, 43000, 43001, 43002, 44000, 44001, 44002] f7b28))
theorem uf7b30 (P ts os Q) : awl P f7b30 Q ts os = awl P (.seq (.tree f7r29 [[], [], [0, 1, 1], [2], [3], [3], [], [6, 4, 2, 0, 1, 2, 3, 4, 6], [5, 7, 0, 1, 2, 3, 4, 5, 6, 7]]) (.keep [1, 2, 3, 4, 5, 6, 7, 8, 9] [1, 2, 4, 6, 8, 21, 24, 25, 30, 31, 36, 37, 42, 43, 22000, 22001, 22002, 25000, 25001, 25002, 26000, 26001, 26002, 31000, 31001, 31002, 32000, 32001, 32002, 37000, 37001, 37002, 38000, 38001, 38002, 43000, 43001, 43002, 44000, 44001, 44002] f7b28)) Q ts os := id rfl
def f7r31o0 : AI := ⟨none, (.load 35 4 true (.t 1))⟩
theorem uf7r31o0 : f7r31o0 = ⟨none, (.load 35 4 true (.t 1))⟩ := id rfl
def f7r31o1 : AI := ⟨none, (.call (some 36) 23 [(.v (.k (.c (.int .i64 10)))), (.v (.k (.c (.int .i64 0))))])⟩
theorem uf7r31o1 : f7r31o1 = ⟨none, (.call (some 36) 23 [(.v (.k (.c (.int .i64 10)))), (.v (.k (.c (.int .i64 0))))])⟩ := id rfl
def f7r31o2 : AI := ⟨none, (.call (some 37) 9 [(.t 35), (.v (.k (.c (.int .i64 6)))), (.t 36)])⟩
theorem uf7r31o2 : f7r31o2 = ⟨none, (.call (some 37) 9 [(.t 35), (.v (.k (.c (.int .i64 6)))), (.t 36)])⟩ := id rfl
def f7r31o3 : AI := ⟨none, (.mov 34 (.t 37))⟩
theorem uf7r31o3 : f7r31o3 = ⟨none, (.mov 34 (.t 37))⟩ := id rfl
def f7r31o4 : AI := ⟨none, (.extr 38 (.t 34) 0)⟩
theorem uf7r31o4 : f7r31o4 = ⟨none, (.extr 38 (.t 34) 0)⟩ := id rfl
def f7r31o5 : AI := ⟨none, (.extr 39 (.t 34) 1)⟩
theorem uf7r31o5 : f7r31o5 = ⟨none, (.extr 39 (.t 34) 1)⟩ := id rfl
def f7r31o6 : AI := ⟨none, (.alloc 6 30 [(.bool false), (.int .i64 0)])⟩
theorem uf7r31o6 : f7r31o6 = ⟨none, (.alloc 6 30 [(.bool false), (.int .i64 0)])⟩ := id rfl
def f7r31o7 : AI := ⟨none, (.store 2 (.t 6) (.t 38))⟩
theorem uf7r31o7 : f7r31o7 = ⟨none, (.store 2 (.t 6) (.t 38))⟩ := id rfl
def f7r31o8 : AI := ⟨none, (.mov 7 (.t 39))⟩
theorem uf7r31o8 : f7r31o8 = ⟨none, (.mov 7 (.t 39))⟩ := id rfl
def f7r31 : List AI := [f7r31o0, f7r31o1, f7r31o2, f7r31o3, f7r31o4, f7r31o5, f7r31o6, f7r31o7, f7r31o8]
theorem utf7r31 : treeOf f7r31 [[], [], [0, 1, 1], [2], [3], [3], [], [6, 4, 2, 0, 1, 2, 3, 4, 6], [5, 7, 0, 1, 2, 3, 4, 5, 6, 7]] = (.one f7r31o6 (.one f7r31o0 (.one f7r31o1 (.one f7r31o2 (.one f7r31o3 (.one f7r31o4 (.alt (.one f7r31o5 (.one f7r31o7 (.one f7r31o8 .done))) (.alt (.one f7r31o7 (.one f7r31o5 (.one f7r31o8 .done))) .top)))))))) := by kernel_rfl
def f7b32 : AQ := (.seq (.tree f7r31 [[], [], [0, 1, 1], [2], [3], [3], [], [6, 4, 2, 0, 1, 2, 3, 4, 6], [5, 7, 0, 1, 2, 3, 4, 5, 6, 7]]) (.keep [1, 2, 3, 4, 5, 6, 7] [1, 2, 4, 6, 21, 24, 25, 30, 31, 36, 37, 22000, 22001, 22002, 25000, 25001, 25002, 26000, 26001, 26002, 31000, 31001, 31002, 32000, 32001, 32002, 37000, 37001, 37002, 38000, 38001, 38002] f7b30))
theorem uf7b32 (P ts os Q) : awl P f7b32 Q ts os = awl P (.seq (.tree f7r31 [[], [], [0, 1, 1], [2], [3], [3], [], [6, 4, 2, 0, 1, 2, 3, 4, 6], [5, 7, 0, 1, 2, 3, 4, 5, 6, 7]]) (.keep [1, 2, 3, 4, 5, 6, 7] [1, 2, 4, 6, 21, 24, 25, 30, 31, 36, 37, 22000, 22001, 22002, 25000, 25001, 25002, 26000, 26001, 26002, 31000, 31001, 31002, 32000, 32001, 32002, 37000, 37001, 37002, 38000, 38001, 38002] f7b30)) Q ts os := id rfl
def f7r33o0 : AI := ⟨none, (.load 29 4 true (.t 1))⟩
theorem uf7r33o0 : f7r33o0 = ⟨none, (.load 29 4 true (.t 1))⟩ := id rfl
def f7r33o1 : AI := ⟨none, (.call (some 30) 23 [(.v (.k (.c (.int .i64 15)))), (.v (.k (.c (.int .i64 1))))])⟩
theorem uf7r33o1 : f7r33o1 = ⟨none, (.call (some 30) 23 [(.v (.k (.c (.int .i64 15)))), (.v (.k (.c (.int .i64 1))))])⟩ := id rfl
def f7r33o2 : AI := ⟨none, (.call (some 31) 9 [(.t 29), (.v (.k (.c (.int .i64 2)))), (.t 30)])⟩
theorem uf7r33o2 : f7r33o2 = ⟨none, (.call (some 31) 9 [(.t 29), (.v (.k (.c (.int .i64 2)))), (.t 30)])⟩ := id rfl
def f7r33o3 : AI := ⟨none, (.mov 28 (.t 31))⟩
theorem uf7r33o3 : f7r33o3 = ⟨none, (.mov 28 (.t 31))⟩ := id rfl
def f7r33o4 : AI := ⟨none, (.extr 32 (.t 28) 0)⟩
theorem uf7r33o4 : f7r33o4 = ⟨none, (.extr 32 (.t 28) 0)⟩ := id rfl
def f7r33o5 : AI := ⟨none, (.extr 33 (.t 28) 1)⟩
theorem uf7r33o5 : f7r33o5 = ⟨none, (.extr 33 (.t 28) 1)⟩ := id rfl
def f7r33o6 : AI := ⟨none, (.alloc 4 30 [(.bool false), (.int .i64 0)])⟩
theorem uf7r33o6 : f7r33o6 = ⟨none, (.alloc 4 30 [(.bool false), (.int .i64 0)])⟩ := id rfl
def f7r33o7 : AI := ⟨none, (.store 2 (.t 4) (.t 32))⟩
theorem uf7r33o7 : f7r33o7 = ⟨none, (.store 2 (.t 4) (.t 32))⟩ := id rfl
def f7r33o8 : AI := ⟨none, (.mov 5 (.t 33))⟩
theorem uf7r33o8 : f7r33o8 = ⟨none, (.mov 5 (.t 33))⟩ := id rfl
def f7r33 : List AI := [f7r33o0, f7r33o1, f7r33o2, f7r33o3, f7r33o4, f7r33o5, f7r33o6, f7r33o7, f7r33o8]
theorem utf7r33 : treeOf f7r33 [[], [], [0, 1, 1], [2], [3], [3], [], [6, 4, 2, 0, 1, 2, 3, 4, 6], [5, 7, 0, 1, 2, 3, 4, 5, 6, 7]] = (.one f7r33o6 (.one f7r33o0 (.one f7r33o1 (.one f7r33o2 (.one f7r33o3 (.one f7r33o4 (.alt (.one f7r33o5 (.one f7r33o7 (.one f7r33o8 .done))) (.alt (.one f7r33o7 (.one f7r33o5 (.one f7r33o8 .done))) .top)))))))) := by kernel_rfl
def f7b34 : AQ := (.seq (.tree f7r33 [[], [], [0, 1, 1], [2], [3], [3], [], [6, 4, 2, 0, 1, 2, 3, 4, 6], [5, 7, 0, 1, 2, 3, 4, 5, 6, 7]]) (.keep [1, 2, 3, 4, 5] [1, 2, 4, 21, 24, 25, 30, 31, 22000, 22001, 22002, 25000, 25001, 25002, 26000, 26001, 26002, 31000, 31001, 31002, 32000, 32001, 32002] f7b32))
theorem uf7b34 (P ts os Q) : awl P f7b34 Q ts os = awl P (.seq (.tree f7r33 [[], [], [0, 1, 1], [2], [3], [3], [], [6, 4, 2, 0, 1, 2, 3, 4, 6], [5, 7, 0, 1, 2, 3, 4, 5, 6, 7]]) (.keep [1, 2, 3, 4, 5] [1, 2, 4, 21, 24, 25, 30, 31, 22000, 22001, 22002, 25000, 25001, 25002, 26000, 26001, 26002, 31000, 31001, 31002, 32000, 32001, 32002] f7b32)) Q ts os := id rfl
def f7r35o0 : AI := ⟨none, (.load 23 4 true (.t 1))⟩
theorem uf7r35o0 : f7r35o0 = ⟨none, (.load 23 4 true (.t 1))⟩ := id rfl
def f7r35o1 : AI := ⟨none, (.call (some 24) 23 [(.v (.k (.c (.int .i64 15)))), (.v (.k (.c (.int .i64 0))))])⟩
theorem uf7r35o1 : f7r35o1 = ⟨none, (.call (some 24) 23 [(.v (.k (.c (.int .i64 15)))), (.v (.k (.c (.int .i64 0))))])⟩ := id rfl
def f7r35o2 : AI := ⟨none, (.call (some 25) 9 [(.t 23), (.v (.k (.c (.int .i64 2)))), (.t 24)])⟩
theorem uf7r35o2 : f7r35o2 = ⟨none, (.call (some 25) 9 [(.t 23), (.v (.k (.c (.int .i64 2)))), (.t 24)])⟩ := id rfl
def f7r35o3 : AI := ⟨none, (.mov 22 (.t 25))⟩
theorem uf7r35o3 : f7r35o3 = ⟨none, (.mov 22 (.t 25))⟩ := id rfl
def f7r35o4 : AI := ⟨none, (.extr 26 (.t 22) 0)⟩
theorem uf7r35o4 : f7r35o4 = ⟨none, (.extr 26 (.t 22) 0)⟩ := id rfl
def f7r35o5 : AI := ⟨none, (.extr 27 (.t 22) 1)⟩
theorem uf7r35o5 : f7r35o5 = ⟨none, (.extr 27 (.t 22) 1)⟩ := id rfl
def f7r35o6 : AI := ⟨none, (.alloc 2 30 [(.bool false), (.int .i64 0)])⟩
theorem uf7r35o6 : f7r35o6 = ⟨none, (.alloc 2 30 [(.bool false), (.int .i64 0)])⟩ := id rfl
def f7r35o7 : AI := ⟨none, (.store 2 (.t 2) (.t 26))⟩
theorem uf7r35o7 : f7r35o7 = ⟨none, (.store 2 (.t 2) (.t 26))⟩ := id rfl
def f7r35o8 : AI := ⟨none, (.mov 3 (.t 27))⟩
theorem uf7r35o8 : f7r35o8 = ⟨none, (.mov 3 (.t 27))⟩ := id rfl
def f7r35 : List AI := [f7r35o0, f7r35o1, f7r35o2, f7r35o3, f7r35o4, f7r35o5, f7r35o6, f7r35o7, f7r35o8]
theorem utf7r35 : treeOf f7r35 [[], [], [0, 1, 1], [2], [3], [3], [], [6, 4, 2, 0, 1, 2, 3, 4, 6], [5, 7, 0, 1, 2, 3, 4, 5, 6, 7]] = (.one f7r35o6 (.one f7r35o0 (.one f7r35o1 (.one f7r35o2 (.one f7r35o3 (.one f7r35o4 (.alt (.one f7r35o5 (.one f7r35o7 (.one f7r35o8 .done))) (.alt (.one f7r35o7 (.one f7r35o5 (.one f7r35o8 .done))) .top)))))))) := by kernel_rfl
def f7b36 : AQ := (.seq (.tree f7r35 [[], [], [0, 1, 1], [2], [3], [3], [], [6, 4, 2, 0, 1, 2, 3, 4, 6], [5, 7, 0, 1, 2, 3, 4, 5, 6, 7]]) (.keep [1, 2, 3] [1, 2, 21, 24, 25, 22000, 22001, 22002, 25000, 25001, 25002, 26000, 26001, 26002] f7b34))
theorem uf7b36 (P ts os Q) : awl P f7b36 Q ts os = awl P (.seq (.tree f7r35 [[], [], [0, 1, 1], [2], [3], [3], [], [6, 4, 2, 0, 1, 2, 3, 4, 6], [5, 7, 0, 1, 2, 3, 4, 5, 6, 7]]) (.keep [1, 2, 3] [1, 2, 21, 24, 25, 22000, 22001, 22002, 25000, 25001, 25002, 26000, 26001, 26002] f7b34)) Q ts os := id rfl
def f7r37 : List AI := [⟨none, (.call (some 21) 22 [])⟩, ⟨none, (.alloc 1 25 [(.str []), (.bool false), (.list 0 (some true) []), (.list 0 (some true) [])])⟩, ⟨none, (.store 4 (.t 1) (.t 21))⟩]
theorem uf7r37 : type_of% @f7r37.eq_1 := id @f7r37.eq_1
def f7b38 : AQ := (.seq (.region f7r37) f7b36)
theorem uf7b38 (P ts os Q) : awl P f7b38 Q ts os = awl P (.seq (.region f7r37) f7b36) Q ts os := id rfl
def f7r39 : List AI := [⟨none, (.mov 0 (.v (.k (.c (.bool false)))))⟩]
theorem uf7r39 : type_of% @f7r39.eq_1 := id @f7r39.eq_1
def f7b40 : AQ := (.seq (.region f7r39) f7b38)
theorem uf7b40 (P ts os Q) : awl P f7b40 Q ts os = awl P (.seq (.region f7r39) f7b38) Q ts os := id rfl
def f7 : AQ := f7b40
theorem uf7 (P ts os Q) : awl P f7 Q ts os = awl P f7b40 Q ts os := id rfl
theorem hf7 : cFunc Tryd.prog 7 = some ⟨145, f7.erase, [(RX.t 0)]⟩ := by kernel_rfl
theorem okf7 : f7.ok = true := by kernel_rfl
end Go.Abs



namespace Go.Abs
theorem wrap_in {n : Int} (h1 : -9223372036854775808 ≤ n) (h2 : n ≤ 9223372036854775807) : IntKind.i64.wrap n = n := IntWalk.i64_in n ⟨h1, h2⟩
def lstC (sz : Nat) (rows : List (List C)) : C := .list (if rows.isEmpty then 0 else sz) none rows
abbrev lst (sz : Nat) (rows : List (List C)) : V := .k (.c (lstC sz rows))
def ints (l : List Int) : List (List C) := l.map fun n => [.int .i64 n]
theorem map_isEmpty {α β : Type} (f : α → β) (l : List α) : (l.map f).isEmpty = l.isEmpty := by cases l <;> rfl
theorem sz_of {α : Type} {l : List α} {i sz : Nat} (h : i < l.length) : (if l.isEmpty = true then 0 else sz) = sz := by cases l <;> simp at h ⊢
theorem map_at {α : Type} {f : α → List C} {l : List α} {i : Nat} (h : i < l.length) : (l.map f).getD i [] = f l[i] := by simp [h]
theorem map_len {α : Type} (f : α → List C) (l : List α) : (l.map f).length = l.length := by simp
theorem normRows_eq {α : Type} {f : α → List C} (hf : ∀ x, C.normRow (f x) = f x) (l : List α) : C.normRows (l.map f) = l.map f := by
  induction l with
  | nil => rfl
  | cons a l ih => simp [C.normRows, hf, ih]
theorem lstC_norm {α : Type} {f : α → List C} (hf : ∀ x, C.normRow (f x) = f x) (sz : Nat) (l : List α) : (lstC sz (l.map f)).norm = lstC sz (l.map f) := by
  unfold lstC
  simp only [C.norm, normRows_eq hf]
  cases l <;> simp
inductive Term where
  | mk (op n : Int) (args : List Term)
  deriving Inhabited
def Term.op : Term → Int | .mk o _ _ => o
def Term.n : Term → Int | .mk _ n _ => n
def Term.args : Term → List Term | .mk _ _ a => a
mutual
def encT : Term → List C
  | .mk o n a => [.int .i64 o, .int .i64 n, lstC 3 (encTs a)]
def encTs : List Term → List (List C)
  | [] => []
  | t :: l => encT t :: encTs l
end
theorem encTs_map : ∀ (l : List Term), encTs l = l.map encT
  | [] => rfl
  | t :: l => by simp [encTs, encTs_map l]
theorem encT_eq (t : Term) : encT t = [.int .i64 t.op, .int .i64 t.n, lstC 3 (t.args.map encT)] := by
  cases t with
  | mk o n a => simp [encT, Term.op, Term.n, Term.args, encTs_map]
mutual
theorem encT_norm : ∀ (t : Term), C.normRow (encT t) = encT t
  | .mk o n a => by
    simp only [encT, C.normRow, C.norm, lstC, encTs_norm a]
    cases a <;> simp [encTs]
theorem encTs_norm : ∀ (l : List Term), C.normRows (encTs l) = encTs l
  | [] => rfl
  | t :: l => by simp only [encTs, C.normRows, encT_norm t, encTs_norm l]
end
theorem encT_len (t : Term) : (encT t).length = 3 := by rw [encT_eq]; rfl
structure Choice where
  ask : Int
  by_ : Int
  whole : Bool
  deriving Inhabited
structure Rule where
  ask : Int
  term : Term
  deriving Inhabited
structure Order where
  name : List UInt8
  accepts : Bool
  choices : List Choice
  rules : List Rule
  deriving Inhabited
def encChoice (c : Choice) : List C := [.int .i64 c.ask, .int .i64 c.by_, .bool c.whole]
def encRule (r : Rule) : List C := .int .i64 r.ask :: encT r.term
def encOrder (o : Order) : List C := [.str o.name, .bool o.accepts, lstC 3 (o.choices.map encChoice), lstC 4 (o.rules.map encRule)]
theorem encChoice_norm (c : Choice) : C.normRow (encChoice c) = encChoice c := rfl
theorem encRule_norm (r : Rule) : C.normRow (encRule r) = encRule r := by simp [encRule, C.normRow, C.norm, encT_norm]
theorem encOrder_norm (o : Order) : C.normRow (encOrder o) = encOrder o := by
  simp only [encOrder, C.normRow, C.norm, lstC_norm encChoice_norm, lstC_norm encRule_norm]
structure Cell where
  known : Bool
  n : Int
  deriving Inhabited
def encCell (c : Cell) : List C := [.bool c.known, .int .i64 c.n]
theorem encCell_norm (c : Cell) : C.normRow (encCell c) = encCell c := rfl
def encI (n : Int) : List C := [.int .i64 n]
@[simp] theorem normRow_int (k : IntKind) (n : Int) : C.normRow [.int k n] = [.int k n] := rfl
@[simp] theorem normRow_encI (n : Int) : C.normRow (encI n) = encI n := rfl
attribute [simp] encT_norm encChoice_norm encRule_norm encOrder_norm encCell_norm C.normRow
@[simp] theorem norm_int (k : IntKind) (n : Int) : (C.int k n).norm = .int k n := rfl
@[simp] theorem norm_bool (b : Bool) : (C.bool b).norm = .bool b := rfl
@[simp] theorem norm_str (s : List UInt8) : (C.str s).norm = .str s := rfl
@[simp] theorem norm_ro (row : List C) (off : Nat) : (C.ro row off).norm = .ro (C.normRow row) off := rfl
@[simp] theorem norm_fn (f : FuncId) (caps : List C) : (C.fn f caps).norm = .fn f (C.normRow caps) := rfl
@[simp] theorem normRows_T (l : List Term) : C.normRows (l.map encT) = l.map encT := normRows_eq encT_norm l
@[simp] theorem normRows_Ch (l : List Choice) : C.normRows (l.map encChoice) = l.map encChoice := normRows_eq encChoice_norm l
@[simp] theorem normRows_R (l : List Rule) : C.normRows (l.map encRule) = l.map encRule := normRows_eq encRule_norm l
@[simp] theorem normRows_O (l : List Order) : C.normRows (l.map encOrder) = l.map encOrder := normRows_eq encOrder_norm l
@[simp] theorem normRows_Ce (l : List Cell) : C.normRows (l.map encCell) = l.map encCell := normRows_eq encCell_norm l
@[simp] theorem normRows_ints (l : List Int) : C.normRows (ints l) = ints l := normRows_eq (fun _ => rfl) l
@[simp] theorem normRows_nil : C.normRows [] = [] := rfl
@[simp] theorem normRows_cons (r : List C) (l : List (List C)) : C.normRows (r :: l) = C.normRow r :: C.normRows l := rfl
@[simp] theorem ints_len (l : List Int) : (ints l).length = l.length := by simp [ints]
theorem ints_at {l : List Int} {i : Nat} (h : i < l.length) : (ints l).getD i [] = [.int .i64 l[i]] := by simp [ints, h]
@[simp] theorem ints_isEmpty (l : List Int) : (ints l).isEmpty = l.isEmpty := by cases l <;> rfl
theorem ints_snoc (l : List Int) (n : Int) : ints l ++ [[.int .i64 n]] = ints (l ++ [n]) := by simp [ints]
theorem ints_append (l m : List Int) : ints l ++ ints m = ints (l ++ m) := by simp [ints]
theorem r_vLen_lst (o : Nat → Option O) (sz : Nat) (rows : List (List C)) : vLen o (.k (.c (lstC sz rows))) = some (True, .int .i64 rows.length) := rfl
theorem r_vIaddr_lst (o : Nat → Option O) (sz : Nat) (rows : List (List C)) (k : IntKind) (n : Int) : vIaddr o sz (.k (.c (lstC sz rows))) (.k (.c (.int k n))) = some (0 ≤ n ∧ n < rows.length, .k (.pel sz rows n.toNat 0)) := by
  simp only [lstC, vIaddr, Option.some.injEq, Prod.mk.injEq]
  cases rows with
  | nil => simp; omega
  | cons a l =>
    refine ⟨?_, ?_⟩
    · simp
    · simp
theorem r_srcV_lst (os : OS) (sz : Nat) (rows : List (List C)) : srcV os sz (.k (.c (lstC sz rows))) = some (True, rows) := by
  simp only [lstC, srcV]
  cases rows <;> simp
@[simp] theorem norm_lst (sz : Nat) (rows : List (List C)) : (lstC sz rows).norm = lstC sz (C.normRows rows) := by
  unfold lstC
  simp only [C.norm]
  cases rows <;> simp [C.normRows]
@[simp] theorem norm_list (sz : Nat) (nl : Option Bool) (rows : List (List C)) : (C.list sz nl rows).norm = lstC sz (C.normRows rows) := by
  unfold lstC
  simp only [C.norm]
  cases rows <;> simp [C.normRows]
theorem r_ofRow_map (r : List C) : ofRow true (r.map Abs.K.c) = .agg r := by
  simp only [ofRow, pureRow_map, if_true]
theorem r_ofRow_take {r : List C} {n : Nat} (h : r.length = n) : ofRow true (List.take n (r.map Abs.K.c)) = .agg r := by
  rw [List.take_of_length_le (by simp; omega)]; exact r_ofRow_map r
theorem r_all_noRef (d : Nat) (r : List C) : (r.map Abs.K.c).all (Abs.K.noRef d) = true := by induction r <;> simp_all [Abs.K.noRef]
theorem r_map_scrub (τ : Nat) (r : List C) : (r.map Abs.K.c).map (Abs.K.scrub τ) = r.map Abs.K.c := by simp [Abs.K.scrub]
theorem r_map_nrm (r : List C) : (r.map Abs.K.c).map Abs.K.nrm = (C.normRow r).map Abs.K.c := by
  induction r with
  | nil => rfl
  | cons a r ih => simp only [List.map_cons, ih]; rfl
theorem r_map_frz (τ : Nat) (ob : O) (r : List C) : (r.map Abs.K.c).map (Abs.K.frz τ ob) = r.map Abs.K.c := by simp [Abs.K.frz]
theorem encRule_len (r : Rule) : (encRule r).length = 4 := by simp [encRule, encT_len]
theorem encOrder_len (r : Order) : (encOrder r).length = 4 := by simp [encOrder]
theorem encChoice_len (r : Choice) : (encChoice r).length = 3 := by simp [encChoice]
theorem encCell_len (r : Cell) : (encCell r).length = 2 := by simp [encCell]
theorem f_rule0 (r : Rule) : ofRow false (List.take 1 (List.map Abs.K.c (encRule r))) = .k (.c (.int .i64 r.ask)) := rfl
theorem g_rule0 (r : Rule) : (encRule r).getD 0 default = .int .i64 r.ask := rfl
theorem g_rule1 (r : Rule) : List.take 3 (List.drop 1 (encRule r)) = encT r.term := by
  have : List.drop 1 (encRule r) = encT r.term := rfl
  rw [this, List.take_of_length_le (by rw [encT_len]; omega)]
theorem f_ch0 (c : Choice) : ofRow false (List.take 1 (List.map Abs.K.c (encChoice c))) = .k (.c (.int .i64 c.ask)) := rfl
theorem g_ch0 (c : Choice) : (encChoice c).getD 0 default = .int .i64 c.ask := rfl
theorem f_or2 (o : Order) : ofRow false (List.take 1 (List.drop 2 (List.map Abs.K.c (encOrder o)))) = .k (.c (lstC 3 (o.choices.map encChoice))) := rfl
theorem f_or3 (o : Order) : ofRow false (List.take 1 (List.drop 3 (List.map Abs.K.c (encOrder o)))) = .k (.c (lstC 4 (o.rules.map encRule))) := rfl
theorem len_rules {o : Order} {l : List V} (hm : V.agg (encOrder o) ∈ l) (h : ∀ v, v ∈ l → ∀ c, c ∈ v.topC → ∀ sz nl rows, c = .list sz nl rows → rows.length ≤ 9223372036854775807) :
    o.choices.length ≤ 9223372036854775807 ∧ o.rules.length ≤ 9223372036854775807 := by
  refine ⟨?_, ?_⟩
  · have := h _ hm (lstC 3 (o.choices.map encChoice)) (by simp [V.topC, encOrder]) _ _ _ rfl
    simpa using this
  · have := h _ hm (lstC 4 (o.rules.map encRule)) (by simp [V.topC, encOrder]) _ _ _ rfl
    simpa using this
theorem len_lst {sz : Nat} {rows : List (List C)} {l : List V} (hm : lst sz rows ∈ l) (h : ∀ v, v ∈ l → ∀ c, c ∈ v.topC → ∀ sz nl rows, c = .list sz nl rows → rows.length ≤ 9223372036854775807) : rows.length ≤ 9223372036854775807 :=
  h _ hm (lstC sz rows) (by simp [V.topC]) _ _ _ rfl
theorem b_tf : (true == false) = false := id rfl
theorem b_ft : (false == true) = false := id rfl
section
variable {P : Program} {f : FuncId} {vs : List V} {K : KK} {d : Nat} {ts : TS} {os : OS}
theorem call_s {args : List V} {r : V} {X : Prop} (hs : Spec P f args (fun r' => r' = r)) (hk : K (insT d r ts) os)
    (hp : vs.all (fun v => (lendL os v).isPure) = true := by simp [lendL, lendO, lookO, V.isPure])
    (ha : vs.map (fun v => (lendL os v).norm) = args := by simp [lendL, lendO, lookO, V.norm, encT_eq, encRule, encOrder, encChoice, encCell, norm_list, lst]) (hr : r.scalar = true := by rfl) : callK P f vs [] K (some d) ts os ∨ X := by
  refine .inl ⟨hp, r, .inl ?_, ?_⟩
  · simpa [ha] using hs
  · rw [if_pos hr]; exact hk
theorem call_c {cs : List C} {args : List V} {r : V} {X : Prop} (hs : Spec P f args (fun r' => r' = r)) (hk : K (insT d r ts) os)
    (hp : vs.all (fun v => (lendL os v).isPure) = true := by simp [lendL, lendO, lookO, V.isPure])
    (ha : (vs.map (fun v => (lendL os v).norm) ++ cs.map fun c => .k (.c c.norm)) = args := by simp [lendL, lendO, lookO, V.norm, encT_eq, encRule, encOrder, encChoice, encCell, norm_list, lst]) (hr : r.scalar = true := by rfl) : callK P f vs cs K (some d) ts os ∨ X := by
  refine .inl ⟨hp, r, .inl (by rw [ha]; exact hs), ?_⟩
  rw [if_pos hr]; exact hk
theorem call_r {args : List V} {r : V} {X : Prop} (hs : Spec P f args (fun r' => r' = r)) (hk : retK r K ts os (some d))
    (hp : vs.all (fun v => (lendL os v).isPure) = true := by simp [lendL, lendO, lookO, V.isPure])
    (ha : vs.map (fun v => (lendL os v).norm) = args := by simp [lendL, lendO, lookO, V.norm, encT_eq, encRule, encOrder, encChoice, encCell, norm_list, lst])
    (ht : vs.all (fun v => v.toks.isEmpty) = true := by simp [V.toks, K.toks]) (hr : r.scalar = false := by rfl) : callK P f vs [] K (some d) ts os ∨ X := by
  refine .inl ⟨hp, r, .inl (by simpa [ha] using hs), ?_⟩
  rw [if_neg (by simp [hr])]
  exact ⟨ht, hk⟩
theorem call_l {args : List V} {e sz : Nat} {nl : Option Bool} {rows : List (List C)} {X : Prop} (hs : Spec P f args (fun r' => r' = .k (.newl e sz nl rows))) (hk : K (insT d (.k (.own d)) ts) (insO d (.arr e sz nl rows) os))
    (hp : vs.all (fun v => (lendL os v).isPure) = true := by simp [lendL, lendO, lookO, V.isPure])
    (ha : vs.map (fun v => (lendL os v).norm) = args := by simp [lendL, lendO, lookO, V.norm, encT_eq, encRule, encOrder, encChoice, encCell, norm_list, lst])
    (ht : vs.all (fun v => v.toks.isEmpty) = true := by simp [V.toks, K.toks]) (hf : freeB d ts os := by first | rfl | simp [freeB, freeT, freeO, V.noRef, V.noRefL, O.noRef, Abs.K.noRef, r_all_noRef]) : callK P f vs [] K (some d) ts os ∨ X := by
  refine .inl ⟨hp, _, .inl (by simpa [ha] using hs), ?_⟩
  rw [if_neg (by simp [V.scalar])]
  refine ⟨ht, ?_⟩
  show regK _ _ _ _ _ _
  refine ⟨⟨⟨hf, .inl rfl⟩, trivial⟩, hk⟩
theorem callQ_s {args : List V} {r : V} (hs : Spec P f args (fun r' => r' = r)) (hk : K (insT d r.fz ts) os)
    (hp : vs.all (fun v => (lendL os v).isPure) = true := by simp [lendL, lendO, lookO, V.isPure])
    (ha : vs.map (fun v => (lendL os v).norm) = args := by simp [lendL, lendO, lookO, V.norm, encT_eq, encRule, encOrder, encChoice, encCell, norm_list, lst]) (hr : r.scalar = true := by rfl) : callQK P f vs [] K d ts os :=
  ⟨hp, r, by simpa [ha] using hs, .inl hr, hk⟩
theorem callQ_l {args : List V} {r : V} (hs : Spec P f args (fun r' => r' = r)) (hk : K (insT d r.fz ts) os)
    (hp : vs.all (fun v => (lendL os v).isPure) = true := by simp [lendL, lendO, lookO, V.isPure])
    (ha : vs.map (fun v => (lendL os v).norm) = args := by simp [lendL, lendO, lookO, V.norm, encT_eq, encRule, encOrder, encChoice, encCell, norm_list, lst]) (hr : vs.all (fun v => v.toks.isEmpty) = true := by simp [V.toks, K.toks]) : callQK P f vs [] K d ts os :=
  ⟨hp, r, by simpa [ha] using hs, .inr hr, hk⟩
theorem call_scalar {args : List V} {r : V} {X : Prop} (hs : Spec P f args (fun r' => r' = r)) (hp : vs.all (fun v => (lendL os v).isPure) = true) (ha : vs.map (fun v => (lendL os v).norm) = args) (hr : r.scalar = true)
    (hk : K (insT d r ts) os) : callK P f vs [] K (some d) ts os ∨ X := by
  refine .inl ⟨hp, r, .inl ?_, ?_⟩
  · simpa [ha] using hs
  · rw [if_pos hr]; exact hk
theorem callQ_scalar {args : List V} {r : V} (hs : Spec P f args (fun r' => r' = r)) (hp : vs.all (fun v => (lendL os v).isPure) = true) (ha : vs.map (fun v => (lendL os v).norm) = args) (hr : r.scalar = true)
    (hk : K (insT d r.fz ts) os) : callQK P f vs [] K d ts os :=
  ⟨hp, r, by simpa [ha] using hs, .inl hr, hk⟩
end
end Go.Abs


set_option maxRecDepth 100000
namespace Go.Abs
theorem Qs : (((((((type_of% @q_insT_eq_1 ∧ type_of% @lookT_here) ∧ (type_of% @q_look_eq_1 ∧ type_of% @true_and)) ∧ ((type_of% @lookT_next ∧ type_of% @q_wpLs_eq_2) ∧ (type_of% @q_wpL_eq_1 ∧ (type_of% @q_wpLs_eq_1 ∧ type_of% @q_putK_eq_1)))) ∧ (((type_of% @q_AE_thenL_eq_1 ∧ type_of% @q_exL_eq_1) ∧ (type_of% @q_awl_eq_5 ∧ type_of% @q_awl_eq_2)) ∧ ((type_of% @q_List_map_nil ∧ type_of% @q_List_map_cons) ∧ (type_of% @and_self ∧ (type_of% @Nat.zero_add ∧ type_of% @q_look_eq_2))))) ∧ ((((type_of% @lookO_here ∧ type_of% @Nat.le_refl) ∧ (type_of% @q_awl_eq_6 ∧ type_of% @q_learn_eq_1)) ∧ ((type_of% @q_condK_eq_1 ∧ type_of% @q_mapT_eq_1) ∧ (type_of% @q_mapT_eq_2 ∧ (type_of% @q_mapO_eq_1 ∧ type_of% @q_List_drop_zero)))) ∧ (((type_of% @q_resL_eq_1 ∧ type_of% @q_V_nrm_eq_1) ∧ (type_of% @q_K_nrm_eq_1 ∧ (type_of% @q_C_norm_eq_4 ∧ type_of% @q_awl_eq_10))) ∧ ((type_of% @q_endK_eq_2 ∧ type_of% @q_endL_eq_1) ∧ (type_of% @q_endV_eq_1 ∧ (type_of% @q_resL_eq_2 ∧ type_of% @q_vBin_eq_1)))))) ∧ (((((type_of% @q_resV_eq_1 ∧ type_of% @q_binV_eq_1) ∧ (type_of% @q_binInt_eq_3 ∧ type_of% @q_C_norm_eq_5)) ∧ ((type_of% @q_exL_eq_11 ∧ type_of% @q_insO_eq_1) ∧ (type_of% @q_List_length_nil ∧ (type_of% @q_List_length_cons ∧ type_of% @q_mapO_eq_2)))) ∧ (((type_of% @q_List_take_zero ∧ type_of% @q_exL_eq_8) ∧ (type_of% @q_loadO_eq_1 ∧ (type_of% @q_isV_eq_1 ∧ type_of% @q_vLoad_eq_1))) ∧ ((type_of% @q_K_nrm_eq_3 ∧ type_of% @q_O_nrm_eq_1) ∧ (type_of% @q_List_drop_succ_cons ∧ (type_of% @q_List_take_succ_cons ∧ type_of% @q_Option_map_some))))) ∧ ((((type_of% @q_awl_eq_1 ∧ type_of% @q_condB_eq_1) ∧ (type_of% @q_resX_eq_1 ∧ type_of% @q_V_owns_eq_1)) ∧ ((type_of% @q_V_toNew_eq_1 ∧ type_of% @q_pureRow_eq_1) ∧ (type_of% @q_pureRow_eq_2 ∧ (type_of% @lookO_next ∧ type_of% @q_AE_thenL_eq_3)))) ∧ (((type_of% @q_V_nrm_eq_2 ∧ type_of% @q_List_nil_append) ∧ (type_of% @Bool.and_true ∧ (type_of% @q_one_eq_1 ∧ type_of% @q_splice_eq_1))) ∧ ((type_of% @q_condB_eq_2 ∧ type_of% @q_freeB_eq_1) ∧ (type_of% @q_freeT_eq_1 ∧ (type_of% @q_freeT_eq_2 ∧ type_of% @q_freeO_eq_1))))))) ∧ ((((((type_of% @Bool.or_true ∧ type_of% @not_false_eq_true) ∧ (type_of% @q_stVarK_eq_1 ∧ type_of% @q_storeK_eq_1)) ∧ ((type_of% @q_K_owns_eq_2 ∧ type_of% @q_K_toNew_eq_1) ∧ (type_of% @q_V_noRef_eq_1 ∧ (type_of% @q_V_cells_eq_2 ∧ type_of% @q_K_noRef_eq_1)))) ∧ (((type_of% @q_exL_eq_9 ∧ type_of% @norm_lst) ∧ (type_of% @Bool.false_eq_true ∧ type_of% @q_C_normRow_eq_1)) ∧ ((type_of% @q_C_normRow_eq_2 ∧ type_of% @q_exL_eq_28) ∧ (type_of% @q_V_noRef_eq_2 ∧ (type_of% @q_exL_eq_21 ∧ type_of% @q_isVarO_eq_1))))) ∧ ((((type_of% @q_ofRow_eq_2 ∧ type_of% @q_vFaddr_eq_1) ∧ (type_of% @q_initT_eq_1 ∧ type_of% @q_awl_eq_7)) ∧ ((type_of% @q_initT_eq_2 ∧ type_of% @q_freeO_eq_2) ∧ (type_of% @Bool.false_or ∧ (type_of% @q_cutInt_eq_8 ∧ type_of% @Nat.add_zero)))) ∧ (((type_of% @q_ofRow_eq_1 ∧ type_of% @q_K_noRef_eq_3) ∧ (type_of% @q_O_noRef_eq_1 ∧ (type_of% @q_resX_eq_2 ∧ type_of% @q_resCell_eq_1))) ∧ ((type_of% @q_V_owns_eq_4 ∧ type_of% @q_V_toNew_eq_2) ∧ (type_of% @q_exL_eq_4 ∧ (type_of% @normRows_Ce ∧ type_of% @q_cutInt_eq_6)))))) ∧ (((((type_of% @q_exL_eq_3 ∧ type_of% @q_Bool_not_true) ∧ (type_of% @q_AOp_dst_eq_1 ∧ type_of% @q_List_all_cons)) ∧ ((type_of% @q_List_all_nil ∧ type_of% @q_AE_inBlockL_eq_3) ∧ (type_of% @q_vPick_eq_1 ∧ (type_of% @q_one_eq_2 ∧ type_of% @Bool.true_and)))) ∧ (((type_of% @q_V_owns_eq_3 ∧ type_of% @q_V_ownsL_eq_1) ∧ (type_of% @q_V_ownsL_eq_2 ∧ (type_of% @q_V_toNew_eq_4 ∧ type_of% @q_V_toNewL_eq_1))) ∧ ((type_of% @q_V_toNewL_eq_2 ∧ type_of% @decide_false) ∧ (type_of% @normRows_T ∧ (type_of% @q_wpLQ_eq_1 ∧ type_of% @q_exK_eq_1))))) ∧ ((((type_of% @q_exL_eq_30 ∧ type_of% @q_exL_eq_23) ∧ (type_of% @Bool.and_eq_true ∧ type_of% @q_AOp_dst_eq_10)) ∧ ((type_of% @q_List_getElemQ_cons_zero ∧ type_of% @q_List_getElemQ_cons_succ) ∧ (type_of% @q_vBuild_eq_1 ∧ (type_of% @q_rowV_eq_1 ∧ type_of% @q_vExtr_eq_1)))) ∧ (((type_of% @q_guardP_eq_1 ∧ type_of% @q_exL_eq_6) ∧ (type_of% @q_O_nrm_eq_2 ∧ (type_of% @decide_true ∧ type_of% @r_ofRow_take))) ∧ ((type_of% @q_Bool_not_false ∧ type_of% @q_exL_eq_27) ∧ (type_of% @r_vLen_lst ∧ (type_of% @q_vLoad_eq_2 ∧ type_of% @q_exL_eq_5)))))))) := ⟨⟨⟨⟨⟨⟨⟨@q_insT_eq_1, @lookT_here⟩, ⟨@q_look_eq_1, @true_and⟩⟩, ⟨⟨@lookT_next, @q_wpLs_eq_2⟩, ⟨@q_wpL_eq_1, ⟨@q_wpLs_eq_1, @q_putK_eq_1⟩⟩⟩⟩, ⟨⟨⟨@q_AE_thenL_eq_1, @q_exL_eq_1⟩, ⟨@q_awl_eq_5, @q_awl_eq_2⟩⟩, ⟨⟨@q_List_map_nil, @q_List_map_cons⟩, ⟨@and_self, ⟨@Nat.zero_add, @q_look_eq_2⟩⟩⟩⟩⟩, ⟨⟨⟨⟨@lookO_here, @Nat.le_refl⟩, ⟨@q_awl_eq_6, @q_learn_eq_1⟩⟩, ⟨⟨@q_condK_eq_1, @q_mapT_eq_1⟩, ⟨@q_mapT_eq_2, ⟨@q_mapO_eq_1, @q_List_drop_zero⟩⟩⟩⟩, ⟨⟨⟨@q_resL_eq_1, @q_V_nrm_eq_1⟩, ⟨@q_K_nrm_eq_1, ⟨@q_C_norm_eq_4, @q_awl_eq_10⟩⟩⟩, ⟨⟨@q_endK_eq_2, @q_endL_eq_1⟩, ⟨@q_endV_eq_1, ⟨@q_resL_eq_2, @q_vBin_eq_1⟩⟩⟩⟩⟩⟩, ⟨⟨⟨⟨⟨@q_resV_eq_1, @q_binV_eq_1⟩, ⟨@q_binInt_eq_3, @q_C_norm_eq_5⟩⟩, ⟨⟨@q_exL_eq_11, @q_insO_eq_1⟩, ⟨@q_List_length_nil, ⟨@q_List_length_cons, @q_mapO_eq_2⟩⟩⟩⟩, ⟨⟨⟨@q_List_take_zero, @q_exL_eq_8⟩, ⟨@q_loadO_eq_1, ⟨@q_isV_eq_1, @q_vLoad_eq_1⟩⟩⟩, ⟨⟨@q_K_nrm_eq_3, @q_O_nrm_eq_1⟩, ⟨@q_List_drop_succ_cons, ⟨@q_List_take_succ_cons, @q_Option_map_some⟩⟩⟩⟩⟩, ⟨⟨⟨⟨@q_awl_eq_1, @q_condB_eq_1⟩, ⟨@q_resX_eq_1, @q_V_owns_eq_1⟩⟩, ⟨⟨@q_V_toNew_eq_1, @q_pureRow_eq_1⟩, ⟨@q_pureRow_eq_2, ⟨@lookO_next, @q_AE_thenL_eq_3⟩⟩⟩⟩, ⟨⟨⟨@q_V_nrm_eq_2, @q_List_nil_append⟩, ⟨@Bool.and_true, ⟨@q_one_eq_1, @q_splice_eq_1⟩⟩⟩, ⟨⟨@q_condB_eq_2, @q_freeB_eq_1⟩, ⟨@q_freeT_eq_1, ⟨@q_freeT_eq_2, @q_freeO_eq_1⟩⟩⟩⟩⟩⟩⟩, ⟨⟨⟨⟨⟨⟨@Bool.or_true, @not_false_eq_true⟩, ⟨@q_stVarK_eq_1, @q_storeK_eq_1⟩⟩, ⟨⟨@q_K_owns_eq_2, @q_K_toNew_eq_1⟩, ⟨@q_V_noRef_eq_1, ⟨@q_V_cells_eq_2, @q_K_noRef_eq_1⟩⟩⟩⟩, ⟨⟨⟨@q_exL_eq_9, @norm_lst⟩, ⟨@Bool.false_eq_true, @q_C_normRow_eq_1⟩⟩, ⟨⟨@q_C_normRow_eq_2, @q_exL_eq_28⟩, ⟨@q_V_noRef_eq_2, ⟨@q_exL_eq_21, @q_isVarO_eq_1⟩⟩⟩⟩⟩, ⟨⟨⟨⟨@q_ofRow_eq_2, @q_vFaddr_eq_1⟩, ⟨@q_initT_eq_1, @q_awl_eq_7⟩⟩, ⟨⟨@q_initT_eq_2, @q_freeO_eq_2⟩, ⟨@Bool.false_or, ⟨@q_cutInt_eq_8, @Nat.add_zero⟩⟩⟩⟩, ⟨⟨⟨@q_ofRow_eq_1, @q_K_noRef_eq_3⟩, ⟨@q_O_noRef_eq_1, ⟨@q_resX_eq_2, @q_resCell_eq_1⟩⟩⟩, ⟨⟨@q_V_owns_eq_4, @q_V_toNew_eq_2⟩, ⟨@q_exL_eq_4, ⟨@normRows_Ce, @q_cutInt_eq_6⟩⟩⟩⟩⟩⟩, ⟨⟨⟨⟨⟨@q_exL_eq_3, @q_Bool_not_true⟩, ⟨@q_AOp_dst_eq_1, @q_List_all_cons⟩⟩, ⟨⟨@q_List_all_nil, @q_AE_inBlockL_eq_3⟩, ⟨@q_vPick_eq_1, ⟨@q_one_eq_2, @Bool.true_and⟩⟩⟩⟩, ⟨⟨⟨@q_V_owns_eq_3, @q_V_ownsL_eq_1⟩, ⟨@q_V_ownsL_eq_2, ⟨@q_V_toNew_eq_4, @q_V_toNewL_eq_1⟩⟩⟩, ⟨⟨@q_V_toNewL_eq_2, @decide_false⟩, ⟨@normRows_T, ⟨@q_wpLQ_eq_1, @q_exK_eq_1⟩⟩⟩⟩⟩, ⟨⟨⟨⟨@q_exL_eq_30, @q_exL_eq_23⟩, ⟨@Bool.and_eq_true, @q_AOp_dst_eq_10⟩⟩, ⟨⟨@q_List_getElemQ_cons_zero, @q_List_getElemQ_cons_succ⟩, ⟨@q_vBuild_eq_1, ⟨@q_rowV_eq_1, @q_vExtr_eq_1⟩⟩⟩⟩, ⟨⟨⟨@q_guardP_eq_1, @q_exL_eq_6⟩, ⟨@q_O_nrm_eq_2, ⟨@decide_true, @r_ofRow_take⟩⟩⟩, ⟨⟨@q_Bool_not_false, @q_exL_eq_27⟩, ⟨@r_vLen_lst, ⟨@q_vLoad_eq_2, @q_exL_eq_5⟩⟩⟩⟩⟩⟩⟩⟩
end Go.Abs


namespace Go.Abs
section
variable {P : Program}
theorem shape_int {n : Nat} {t : TypeId} {r : List C} {k : IntKind} (hu : P.underlying t = some (.int k)) (h : Shape P n t r) : ∃ m : Int, r = [.int k m] ∧ (Lit.int k m).wf = true := by
  cases n with
  | zero => exact h.elim
  | succ n => simp only [Shape, hu] at h; exact h
theorem shape_bool {n : Nat} {t : TypeId} {r : List C} (hu : P.underlying t = some .bool) (h : Shape P n t r) : ∃ b : Bool, r = [.bool b] := by
  cases n with
  | zero => exact h.elim
  | succ n => simp only [Shape, hu] at h; exact h
theorem shape_str {n : Nat} {t : TypeId} {r : List C} (hu : P.underlying t = some .string) (h : Shape P n t r) : ∃ s : List UInt8, r = [.str s] ∧ s.length ≤ 9223372036854775807 := by
  cases n with
  | zero => exact h.elim
  | succ n => simp only [Shape, hu] at h; exact h
theorem shape_slice {n : Nat} {t e : TypeId} {r : List C} (hu : P.underlying t = some (.slice e)) (h : Shape P n t r) : ∃ m rows, n = m + 1 ∧ r = [lstC (P.cellsOf e) rows] ∧ rows.length ≤ 9223372036854775807 ∧ ∀ x ∈ rows, Shape P m e x := by
  cases n with
  | zero => exact h.elim
  | succ n => simp only [Shape, hu] at h; obtain ⟨rows, h1, h2, h3⟩ := h; exact ⟨n, rows, rfl, h1, h2, h3⟩
theorem shape_struct {n : Nat} {t : TypeId} {fs : Array Field} {r : List C} (hu : P.underlying t = some (.struct fs)) (h : Shape P n t r) : ∃ m rs, n = m + 1 ∧ r = rs.flatten ∧ ShapeL (Shape P m) (fs.toList.map (·.type)) rs := by
  cases n with
  | zero => exact h.elim
  | succ n => simp only [Shape, hu] at h; obtain ⟨rs, h1, h2⟩ := h; exact ⟨n, rs, rfl, h1, h2⟩
theorem shapeL2 {S : TypeId → List C → Prop} {a b : TypeId} {rs : List (List C)} (h : ShapeL S [a, b] rs) : ∃ x y, rs = [x, y] ∧ S a x ∧ S b y := by
  match rs, h with
  | [x, y], h => exact ⟨x, y, rfl, h.1, h.2.1⟩
theorem shapeL3 {S : TypeId → List C → Prop} {a b c : TypeId} {rs : List (List C)} (h : ShapeL S [a, b, c] rs) : ∃ x y z, rs = [x, y, z] ∧ S a x ∧ S b y ∧ S c z := by
  match rs, h with
  | [x, y, z], h => exact ⟨x, y, z, rfl, h.1, h.2.1, h.2.2.1⟩
theorem shapeL4 {S : TypeId → List C → Prop} {a b c d : TypeId} {rs : List (List C)} (h : ShapeL S [a, b, c, d] rs) : ∃ x y z u, rs = [x, y, z, u] ∧ S a x ∧ S b y ∧ S c z ∧ S d u := by
  match rs, h with
  | [x, y, z, u], h => exact ⟨x, y, z, u, rfl, h.1, h.2.1, h.2.2.1, h.2.2.2.1⟩
theorem rows_of {α : Type} {S : List C → Prop} (enc : α → List C) (hS : ∀ r, S r → ∃ a, r = enc a) : ∀ (rows : List (List C)), (∀ r ∈ rows, S r) → ∃ l : List α, rows = l.map enc
  | [], _ => ⟨[], rfl⟩
  | r :: rows, h => by
    obtain ⟨a, ha⟩ := hS r (h r (by simp))
    obtain ⟨l, hl⟩ := rows_of enc hS rows (fun x hx => h x (by simp [hx]))
    exact ⟨a :: l, by rw [ha, hl]; rfl⟩
structure TermTypes (P : Program) (tI tB tS tT tLT tR tLR tC tLC tO : TypeId) : Prop where
  i : P.underlying tI = some (.int .i64)
  b : P.underlying tB = some .bool
  s : P.underlying tS = some .string
  t : ∃ fs, P.underlying tT = some (.struct fs) ∧ fs.toList.map (·.type) = [tI, tI, tLT]
  lt : P.underlying tLT = some (.slice tT) ∧ P.cellsOf tT = 3
  r : ∃ fs, P.underlying tR = some (.struct fs) ∧ fs.toList.map (·.type) = [tI, tT]
  lr : P.underlying tLR = some (.slice tR) ∧ P.cellsOf tR = 4
  c : ∃ fs, P.underlying tC = some (.struct fs) ∧ fs.toList.map (·.type) = [tI, tI, tB]
  lc : P.underlying tLC = some (.slice tC) ∧ P.cellsOf tC = 3
  o : ∃ fs, P.underlying tO = some (.struct fs) ∧ fs.toList.map (·.type) = [tS, tB, tLC, tLR]
variable {tI tB tS tT tLT tR tLR tC tLC tO : TypeId}
theorem shape_term (h : TermTypes P tI tB tS tT tLT tR tLR tC tLC tO) : ∀ (n : Nat) (r : List C), Shape P n tT r → ∃ t : Term, r = encT t := by
  intro n
  induction n using Nat.strongRecOn with
  | ind n ih =>
    intro r hr
    obtain ⟨fs, hf, hl⟩ := h.t
    obtain ⟨m, rs, rfl, rfl, hs⟩ := shape_struct hf hr
    rw [hl] at hs
    obtain ⟨x, y, z, rfl, h1, h2, h3⟩ := shapeL3 hs
    obtain ⟨op, rfl, _⟩ := shape_int h.i h1
    obtain ⟨k, rfl, _⟩ := shape_int h.i h2
    obtain ⟨m', rows, rfl, rfl, _, h4⟩ := shape_slice h.lt.1 h3
    obtain ⟨l, rfl⟩ := rows_of encT (fun r hr => ih m' (by omega) r hr) rows h4
    exact ⟨.mk op k l, by rw [encT_eq, h.lt.2]; rfl⟩
theorem shape_rule (h : TermTypes P tI tB tS tT tLT tR tLR tC tLC tO) {n : Nat} {r : List C} (hr : Shape P n tR r) : ∃ x : Rule, r = encRule x := by
  obtain ⟨fs, hf, hl⟩ := h.r
  obtain ⟨m, rs, rfl, rfl, hs⟩ := shape_struct hf hr
  rw [hl] at hs
  obtain ⟨x, y, rfl, h1, h2⟩ := shapeL2 hs
  obtain ⟨a, rfl, _⟩ := shape_int h.i h1
  obtain ⟨t, rfl⟩ := shape_term h m y h2
  exact ⟨⟨a, t⟩, by simp [encRule]⟩
theorem shape_choice (h : TermTypes P tI tB tS tT tLT tR tLR tC tLC tO) {n : Nat} {r : List C} (hr : Shape P n tC r) : ∃ x : Choice, r = encChoice x := by
  obtain ⟨fs, hf, hl⟩ := h.c
  obtain ⟨m, rs, rfl, rfl, hs⟩ := shape_struct hf hr
  rw [hl] at hs
  obtain ⟨x, y, z, rfl, h1, h2, h3⟩ := shapeL3 hs
  obtain ⟨a, rfl, _⟩ := shape_int h.i h1
  obtain ⟨b, rfl, _⟩ := shape_int h.i h2
  obtain ⟨c, rfl⟩ := shape_bool h.b h3
  exact ⟨⟨a, b, c⟩, rfl⟩
theorem shape_order (h : TermTypes P tI tB tS tT tLT tR tLR tC tLC tO) {n : Nat} {r : List C} (hr : Shape P n tO r) : ∃ x : Order, r = encOrder x := by
  obtain ⟨fs, hf, hl⟩ := h.o
  obtain ⟨m, rs, rfl, rfl, hs⟩ := shape_struct hf hr
  rw [hl] at hs
  obtain ⟨x, y, z, u, rfl, h1, h2, h3, h4⟩ := shapeL4 hs
  obtain ⟨a, rfl, _⟩ := shape_str h.s h1
  obtain ⟨b, rfl⟩ := shape_bool h.b h2
  obtain ⟨_, rows, _, rfl, _, h5⟩ := shape_slice h.lc.1 h3
  obtain ⟨_, rows', _, rfl, _, h6⟩ := shape_slice h.lr.1 h4
  obtain ⟨l, rfl⟩ := rows_of encChoice (fun r hr => shape_choice h hr) rows h5
  obtain ⟨l', rfl⟩ := rows_of encRule (fun r hr => shape_rule h hr) rows' h6
  exact ⟨⟨a, b, l, l'⟩, by rw [h.lc.2, h.lr.2]; rfl⟩
theorem arg_order (h : TermTypes P tI tB tS tT tLT tR tLR tC tLC tO) {n : Nat} {r : List C} (hr : Shape P n tO r) : ∃ x : Order, argV P tO r = .agg (encOrder x) := by
  obtain ⟨x, rfl⟩ := shape_order h hr
  obtain ⟨fs, hf, _⟩ := h.o
  exact ⟨x, by simp only [argV, hf]⟩
theorem arg_int {n : Nat} {t : TypeId} {r : List C} {k : IntKind} (hu : P.underlying t = some (.int k)) (hr : Shape P n t r) : ∃ m : Int, argV P t r = .int k m ∧ (Lit.int k m).wf = true := by
  obtain ⟨m, rfl, h⟩ := shape_int hu hr
  exact ⟨m, by simp only [argV, hu], h⟩
end
end Go.Abs


namespace Go.Abs
section
variable {P : Program}
theorem shape_cell {n : Nat} {t tB tI : TypeId} {fs : Array Field} {r : List C} (ht : P.underlying t = some (.struct fs)) (hf : fs.toList.map (·.type) = [tB, tI]) (hb : P.underlying tB = some .bool) (hi : P.underlying tI = some (.int .i64)) (hr : Shape P n t r) : ∃ c : Cell, r = encCell c := by
  obtain ⟨m, rs, rfl, rfl, hs⟩ := shape_struct ht hr
  rw [hf] at hs
  obtain ⟨x, y, rfl, h1, h2⟩ := shapeL2 hs
  obtain ⟨b, rfl⟩ := shape_bool hb h1
  obtain ⟨k, rfl, _⟩ := shape_int hi h2
  exact ⟨⟨b, k⟩, rfl⟩
theorem arg_cells {n : Nat} {t e tB tI : TypeId} {fs : Array Field} {r : List C} (ht : P.underlying t = some (.slice e)) (he : P.underlying e = some (.struct fs)) (hf : fs.toList.map (·.type) = [tB, tI]) (hb : P.underlying tB = some .bool) (hi : P.underlying tI = some (.int .i64)) (hc : P.cellsOf e = 2)
    (hr : Shape P n t r) : ∃ l : List Cell, argV P t r = lst 2 (l.map encCell) := by
  obtain ⟨m, rows, rfl, rfl, _, h⟩ := shape_slice ht hr
  obtain ⟨l, rfl⟩ := rows_of encCell (fun r hr => shape_cell he hf hb hi hr) rows h
  exact ⟨l, by simp only [argV, ht, hc]⟩
def encB (b : Bool) : List C := [.bool b]
end
end Go.Abs


namespace Go.Abs
section
variable {P : Program} {tI tB tS tT tLT tR tLR tC tLC tO : TypeId}
end
end Go.Abs


namespace Go.Abs
def cut (n : Int) : Int := min (max n (-1099511627776)) 1099511627776
theorem cut_eq (n : Int) : cut n = n ↔ -1099511627776 ≤ n ∧ n ≤ 1099511627776 := by unfold cut; omega
def varType (v : Int) : Option Int := if v < 0 ∨ v > 19 then none else if v < 7 then some 0 else some 1
def varTypeV (v : Int) : V := .tup [.int .i64 ((varType v).getD 0), .bool (varType v).isSome]
def leaf (t : Term) : Int × Int :=
  if t.args.length > 0 then (0, 2) else if t.op = 0 then (if cut t.n ≠ t.n then (0, 3) else (0, 0)) else if t.op = 1 then (if t.n < 0 ∨ t.n > 1 then (0, 3) else (1, 0))
  else match varType t.n with | none => (0, 10) | some k => (k, 0)
def pairV (p : Int × Int) : V := .tup [.int .i64 p.1, .int .i64 p.2]
def arity (op : Int) : Int := if op = 0 ∨ op = 1 ∨ op = 2 then 0 else if op = 3 then 1 else if op = 6 then 3 else 2
mutual
def nodes : Term → Int → Int → Int
  | .mk _ _ a, k, lv => if lv < 1 then -1 else nodesL a (k - 1) (lv - 1)
def nodesL : List Term → Int → Int → Int
  | [], k, _ => k
  | t :: l, k, lv => if k < 0 then k else nodesL l (nodes t k lv) lv
end
theorem nodes_eq (t : Term) (k lv : Int) : nodes t k lv = if lv < 1 then -1 else nodesL t.args (k - 1) (lv - 1) := by cases t; simp [nodes, Term.args]
mutual
theorem nodes_bd : ∀ (t : Term) (k lv : Int), 0 ≤ k → -1 ≤ nodes t k lv ∧ nodes t k lv ≤ k
  | .mk _ _ a, k, lv, h => by
    simp only [nodes]
    split
    · omega
    · have := nodesL_bd a (k - 1) (lv - 1) (by omega); omega
theorem nodesL_bd : ∀ (l : List Term) (k lv : Int), -1 ≤ k → -1 ≤ nodesL l k lv ∧ nodesL l k lv ≤ k
  | [], k, lv, h => by simp [nodesL, h]
  | t :: l, k, lv, h => by
    simp only [nodesL]
    split
    · omega
    · have h1 := nodes_bd t k lv (by omega)
      have := nodesL_bd l (nodes t k lv) lv h1.1
      omega
end
theorem nodesL_drop {l : List Term} {i : Nat} (h : i < l.length) (k lv : Int) : nodesL (l.drop i) k lv = if k < 0 then k else nodesL (l.drop (i + 1)) (nodes l[i] k lv) lv := by
  rw [List.drop_eq_getElem_cons h, nodesL]
theorem nodesL_neg (l : List Term) (k lv : Int) (h : k < 0) : nodesL l k lv = k := by
  cases l <;> simp [nodesL, h]
theorem norm_T (t : Term) : C.normRow [C.int .i64 t.op, C.int .i64 t.n, C.list (if (List.map encT t.args).isEmpty = true then 0 else 3) none (List.map encT t.args)] = encT t := by
  have h := encT_norm t
  rw [encT_eq] at h
  exact h.trans (encT_eq t).symm
def measL (m : Term → Int) : List Term → Int → Int
  | [], n => n
  | a :: l, n => if n + m a > 60 then n + m a else measL m l (n + m a)
def meas : Nat → Term → Int
  | 0, _ => 61
  | f + 1, t => measL (meas f) t.args 1
theorem measL_bd {m : Term → Int} {M : Int} (hm : ∀ a, 1 ≤ m a ∧ m a ≤ M) (hM : 1 ≤ M) : ∀ (l : List Term) (n : Int), 1 ≤ n → n ≤ 60 → 1 ≤ measL m l n ∧ measL m l n ≤ 60 + M
  | [], n, h1, h2 => by simp only [measL]; omega
  | a :: l, n, h1, h2 => by
    simp only [measL]
    have := hm a
    split
    · omega
    · exact measL_bd hm hM l _ (by omega) (by omega)
theorem meas_bd : ∀ (f : Nat) (t : Term), 1 ≤ meas f t ∧ meas f t ≤ 61 + 60 * f
  | 0, t => by simp [meas]
  | f + 1, t => by
    have := measL_bd (m := meas f) (M := 61 + 60 * f) (meas_bd f) (by omega) t.args 1 (by omega) (by omega)
    simp only [meas]
    omega
theorem measL_drop {m : Term → Int} {l : List Term} {i : Nat} (h : i < l.length) (n : Int) : measL m (l.drop i) n = if n + m l[i] > 60 then n + m l[i] else measL m (l.drop (i + 1)) (n + m l[i]) := by
  rw [List.drop_eq_getElem_cons h, measL]
def shapeArgs (op : Int) : List Int := if op = 3 then [1] else if op = 4 ∨ op = 5 then [1, 1] else if op = 6 then [1, -1, -1] else if op = 7 then [0, 0] else if op = 8 then [-1, -1] else [0, 0]
def shapeRes (op : Int) : Int := if op = 3 then 1 else if op = 4 ∨ op = 5 then 1 else if op = 6 then -1 else if op = 7 then 1 else if op = 8 then 1 else 0
def shapeV (op : Int) : V := .agk [.newl 3 1 none (ints (shapeArgs op)), .c (.int .i64 (shapeRes op))]
def fit : List Int → List Int → Int → Option Int
  | [], _, c => some c
  | _, [], c => some c
  | w :: ws, ty :: tys, c =>
    let c' := if w = -1 ∧ c = -1 then ty else c
    if ty ≠ (if w = -1 then c' else w) then none else fit ws tys c'
def node (t : Term) (tys : List Int) : Int × Int :=
  if t.op < 0 ∨ t.op > 13 then (0, 1) else if t.op = 0 ∨ t.op = 1 ∨ t.op = 2 then leaf t
  else if tys.length ≠ (shapeArgs t.op).length ∨ t.n ≠ 0 then (0, 2)
  else match fit (shapeArgs t.op) tys (-1) with
    | none => (0, 11)
    | some c => if shapeRes t.op = -1 then (c, 0) else (shapeRes t.op, 0)
mutual
def chk : Term → Int × Int
  | .mk o n a => if (chkA a []).1 ≠ 0 then (0, (chkA a []).1) else node (.mk o n a) (chkA a []).2
def chkA : List Term → List Int → Int × List Int
  | [], ty => (0, ty)
  | t :: l, ty => if (chk t).2 ≠ 0 then ((chk t).2, []) else chkA l (ty ++ [(chk t).1])
end
theorem chk_eq (t : Term) : chk t = if (chkA t.args []).1 ≠ 0 then (0, (chkA t.args []).1) else node t (chkA t.args []).2 := by cases t; simp only [chk, Term.args]; rfl
theorem chkA_drop {l : List Term} {i : Nat} (h : i < l.length) (ty : List Int) : chkA (l.drop i) ty = if (chk l[i]).2 ≠ 0 then ((chk l[i]).2, []) else chkA (l.drop (i + 1)) (ty ++ [(chk l[i]).1]) := by
  rw [List.drop_eq_getElem_cons h, chkA]
def Narrow : Nat → Term → Prop
  | 0, _ => False
  | f + 1, t => t.args.length ≤ 1000 ∧ ∀ a ∈ t.args, Narrow f a
theorem set_at {l : List Int} {n : Nat} {x : Int} {i : Nat} (hl : l.length = i) (h : i < n) :
    (ints l ++ List.replicate (n - i) [C.int .i64 0]).set i [C.int .i64 x] = ints (l ++ [x]) ++ List.replicate (n - (i + 1)) [C.int .i64 0] := by
  obtain ⟨m, hm⟩ : ∃ m, n - i = m + 1 := ⟨n - i - 1, by omega⟩
  have hm2 : n - (i + 1) = m := by omega
  rw [hm, hm2, List.replicate_succ, List.set_append_right _ _ (by simp [ints, hl])]
  simp [ints, hl]
theorem fit_drop {ws tys : List Int} {j : Nat} (h1 : j < ws.length) (h2 : j < tys.length) (c : Int) : fit (ws.drop j) (tys.drop j) c =
    if tys[j] ≠ (if ws[j] = -1 then (if ws[j] = -1 ∧ c = -1 then tys[j] else c) else ws[j]) then none else fit (ws.drop (j + 1)) (tys.drop (j + 1)) (if ws[j] = -1 ∧ c = -1 then tys[j] else c) := by
  rw [List.drop_eq_getElem_cons h1, List.drop_eq_getElem_cons h2, fit]
theorem fit_end (ws tys : List Int) (c : Int) (h : ws = []) : fit ws tys c = some c := by subst h; cases tys <;> rfl
theorem shape_small (op : Int) : (shapeArgs op).length ≤ 3 := by unfold shapeArgs; (repeat' split) <;> simp
end Go.Abs


namespace Go.Abs
theorem Term.ind {P : Term → Prop} (h : ∀ o n a, (∀ x ∈ a, P x) → P (.mk o n a)) : ∀ t, P t := by
  have key : ∀ k, ∀ t : Term, SizeOf.sizeOf t < k → P t := by
    intro k
    induction k with
    | zero => intro t ht; omega
    | succ k ih =>
      rintro ⟨o, n, a⟩ ht
      refine h o n a fun x hx => ih x ?_
      have := List.sizeOf_lt_of_mem hx
      simp at ht
      omega
  exact fun t => key _ t (Nat.lt_succ_self _)
def checkT (t : Term) : Int × Int := if nodes t 60 8 < 0 then (0, 6) else chk t
def few (t : Term) : Bool := decide (nodes t 100 20 ≥ 0)
theorem measL_ge {m : Term → Int} (hm : ∀ a, 1 ≤ m a) : ∀ (l : List Term) (n : Int), n ≤ measL m l n
  | [], n => by simp [measL]
  | b :: l, n => by
    have := hm b
    have := measL_ge hm l (n + m b)
    simp only [measL]; split <;> omega
theorem meas_nodes : ∀ (f : Nat),
    (∀ (t : Term) (c : Int), 0 ≤ c → c < 60 → (nodes t (60 - c) f < 0 ↔ c + meas f t > 60) ∧ (0 ≤ nodes t (60 - c) f → nodes t (60 - c) f = 60 - c - meas f t)) ∧
    (∀ (l : List Term) (c n : Int), 0 ≤ c → 1 ≤ n → c + n ≤ 60 → (nodesL l (60 - c - n) f < 0 ↔ c + measL (meas f) l n > 60) ∧ (0 ≤ nodesL l (60 - c - n) f → nodesL l (60 - c - n) f = 60 - c - measL (meas f) l n)) := by
  intro f
  induction f with
  | zero =>
    have h1 : ∀ (t : Term) (c : Int), 0 ≤ c → c < 60 → (nodes t (60 - c) ((0 : Nat) : Int) < 0 ↔ c + meas 0 t > 60) ∧ (0 ≤ nodes t (60 - c) ((0 : Nat) : Int) → nodes t (60 - c) ((0 : Nat) : Int) = 60 - c - meas 0 t) := by
      intro t c hc h60
      rw [nodes_eq, if_pos (by omega)]
      simp only [meas]
      omega
    refine ⟨h1, fun l => ?_⟩
    cases l with
    | nil =>
      intro c n hc hn h
      show (60 - c - n < 0 ↔ c + n > 60) ∧ (0 ≤ 60 - c - n → 60 - c - n = 60 - c - n)
      exact ⟨by omega, fun _ => rfl⟩
    | cons a l =>
      intro c n hc hn h
      have e1 : nodes a (60 - c - n) ((0 : Nat) : Int) = -1 := by rw [nodes_eq, if_pos (by omega)]
      have h0 : ¬ (60 - c - n < 0) := by omega
      have h6 : n + 61 > 60 := by omega
      simp only [nodesL, measL, meas, e1, if_neg h0, if_pos h6]
      rw [nodesL_neg _ _ _ (by omega)]
      omega
  | succ f ih =>
    have h1 : ∀ (t : Term) (c : Int), 0 ≤ c → c < 60 → (nodes t (60 - c) ((f + 1 : Nat) : Int) < 0 ↔ c + meas (f + 1) t > 60) ∧ (0 ≤ nodes t (60 - c) ((f + 1 : Nat) : Int) → nodes t (60 - c) ((f + 1 : Nat) : Int) = 60 - c - meas (f + 1) t) := by
      intro t c hc h60
      rw [nodes_eq, if_neg (by omega)]
      have := ih.2 t.args c 1 hc (by omega) (by omega)
      have e : ((f + 1 : Nat) : Int) - 1 = (f : Nat) := by omega
      rw [e]
      simp only [meas]
      exact this
    refine ⟨h1, fun l => ?_⟩
    induction l with
    | nil =>
      intro c n hc hn h
      show (60 - c - n < 0 ↔ c + n > 60) ∧ (0 ≤ 60 - c - n → 60 - c - n = 60 - c - n)
      exact ⟨by omega, fun _ => rfl⟩
    | cons a l ihl =>
      intro c n hc hn h
      simp only [nodesL, measL]
      rw [if_neg (by omega)]
      have hm := (meas_bd (f + 1) a).1
      by_cases hb : c + n = 60
      · have e0 : 60 - c - n = 0 := by omega
        have hn : nodes a (60 - c - n) ((f + 1 : Nat) : Int) < 0 := by
          have := (nodes_bd a (60 - c - n) ((f + 1 : Nat) : Int) (by omega))
          rw [nodes_eq, if_neg (by omega), nodesL_neg _ _ _ (by omega)]; omega
        rw [nodesL_neg _ _ _ hn]
        split
        · have := (nodes_bd a (60 - c - n) ((f + 1 : Nat) : Int) (by omega)).1; omega
        · have := measL_ge (m := meas (f + 1)) (fun a => (meas_bd (f + 1) a).1) l (n + meas (f + 1) a)
          have := (nodes_bd a (60 - c - n) ((f + 1 : Nat) : Int) (by omega)).1
          omega
      · obtain ⟨g1, g2⟩ := h1 a (c + n) (by omega) (by omega)
        have e1 : 60 - (c + n) = 60 - c - n := by omega
        rw [e1] at g1 g2
        by_cases hneg : nodes a (60 - c - n) ((f + 1 : Nat) : Int) < 0
        · rw [nodesL_neg _ _ _ hneg]
          have := g1.1 hneg
          split
          · omega
          · have := measL_ge (m := meas (f + 1)) (fun a => (meas_bd (f + 1) a).1) l (n + meas (f + 1) a)
            omega
        · have e2 := g2 (by omega)
          rw [e2]
          have hnb : ¬ (c + n + meas (f + 1) a > 60) := fun h => hneg (g1.2 h)
          rw [if_neg (by omega)]
          have := ihl c (n + meas (f + 1) a) hc (by omega) (by omega)
          have e3 : 60 - c - (n + meas (f + 1) a) = 60 - (c + n) - meas (f + 1) a := by omega
          rw [e3] at this
          have e4 : 60 - c - n - meas (f + 1) a = 60 - (c + n) - meas (f + 1) a := by omega
          rw [e4]; exact this
theorem meas_check (t : Term) : meas 8 t > 60 ↔ nodes t 60 8 < 0 := by
  have := ((meas_nodes 8).1 t 0 (by omega) (by omega)).1
  simp only [Int.sub_zero, Int.zero_add] at this
  exact this.symm
theorem nodesL_len : ∀ (l : List Term) (k lv : Int), 0 ≤ nodesL l k lv → (l.length : Int) ≤ k
  | [], k, lv, h => by simpa [nodesL] using h
  | t :: l, k, lv, h => by
    simp only [nodesL] at h
    split at h
    · omega
    · have h1 := nodesL_len l _ lv h
      have h2 : nodes t k lv ≤ k - 1 := by
        rw [nodes_eq]
        split
        · omega
        · have := (nodesL_bd t.args (k - 1) (lv - 1) (by omega)).2; omega
      simp only [List.length_cons]
      omega
theorem nodesL_mem : ∀ (l : List Term) (k lv : Int), 0 ≤ nodesL l k lv → ∀ a ∈ l, ∃ k', k' ≤ k ∧ 0 ≤ nodes a k' lv
  | [], _, _, _, a, h => by simp at h
  | t :: l, k, lv, h, a, ha => by
    simp only [nodesL] at h
    split at h
    · omega
    · rcases List.mem_cons.1 ha with rfl | ha
      · refine ⟨k, Int.le_refl _, ?_⟩
        by_cases hn : nodes a k lv < 0
        · rw [nodesL_neg _ _ _ hn] at h; omega
        · omega
      · obtain ⟨k', h1, h2⟩ := nodesL_mem l _ lv h a ha
        have := (nodes_bd t k lv (by omega)).2
        exact ⟨k', by omega, h2⟩
theorem narrow_of : ∀ (f : Nat) (t : Term) (k : Int), k ≤ 1000 → 0 ≤ nodes t k f → Narrow f t
  | 0, t, k, _, h => by rw [nodes_eq] at h; simp at h
  | f + 1, t, k, hk, h => by
    rw [nodes_eq, if_neg (by omega)] at h
    have e : ((f + 1 : Nat) : Int) - 1 = (f : Nat) := by omega
    rw [e] at h
    have := nodesL_len _ _ _ h
    refine ⟨by omega, fun a ha => ?_⟩
    obtain ⟨k', h1, h2⟩ := nodesL_mem _ _ _ h a ha
    exact narrow_of f a k' (by omega) h2
mutual
def used : Term → Int → Bool
  | .mk o n a, v => if o = 2 then decide (n = v) else usedL a v
def usedL : List Term → Int → Bool
  | [], _ => false
  | t :: l, v => if used t v = true then true else usedL l v
end
theorem used_eq (t : Term) (v : Int) : used t v = if t.op = 2 then decide (t.n = v) else usedL t.args v := by cases t; simp only [used, Term.op, Term.n, Term.args]; rfl
theorem usedL_drop {l : List Term} {i : Nat} (h : i < l.length) (v : Int) : usedL (l.drop i) v = if used l[i] v = true then true else usedL (l.drop (i + 1)) v := by
  rw [List.drop_eq_getElem_cons h, usedL]
mutual
def coll : Term → List Int → List Int
  | .mk o n a, acc => collL a (if o = 2 then acc ++ [n] else acc)
def collL : List Term → List Int → List Int
  | [], acc => acc
  | t :: l, acc => collL l (coll t acc)
end
theorem coll_eq (t : Term) (acc : List Int) : coll t acc = collL t.args (if t.op = 2 then acc ++ [t.n] else acc) := by cases t; simp only [coll, Term.op, Term.n, Term.args]; rfl
theorem collL_drop {l : List Term} {i : Nat} (h : i < l.length) (acc : List Int) : collL (l.drop i) acc = collL (l.drop (i + 1)) (coll l[i] acc) := by
  rw [List.drop_eq_getElem_cons h, collL]
def upto (n : Nat) : List Int := (List.range n).map fun (i : Nat) => (i : Int)
def varsT (t : Term) : List Int := if (checkT t).2 ≠ 0 then [] else (upto 20).filter (used t)
def valueC (v : Int) (cells : List Cell) : Cell :=
  if v < 0 ∨ v ≥ cells.length then ⟨false, 0⟩
  else if (cells.getD v.toNat ⟨false, 0⟩).known = false then ⟨false, 0⟩
  else if (varType v).getD 0 = 0 then ⟨true, cut (cells.getD v.toNat ⟨false, 0⟩).n⟩
  else if (cells.getD v.toNat ⟨false, 0⟩).n ≠ 0 then ⟨true, 1⟩ else ⟨true, 0⟩
def yes (b : Bool) : Cell := if b then ⟨true, 1⟩ else ⟨true, 0⟩
def logic (a b : Cell) (alone : Int) : Cell :=
  if a.known = true ∧ a.n = alone ∨ b.known = true ∧ b.n = alone then ⟨true, alone⟩
  else if a.known = true ∧ b.known = true then ⟨true, 1 - alone⟩ else ⟨false, 0⟩
def times (a b : Int) : Int := cut (a * b)
def number (op a b : Int) : Cell :=
  if op = 7 then yes (decide (a < b)) else if op = 8 then yes (decide (a = b)) else if op = 9 then ⟨true, cut (a + b)⟩ else if op = 10 then ⟨true, cut (a - b)⟩
  else if op = 11 then ⟨true, times a b⟩ else if op = 12 then ⟨true, min a b⟩ else ⟨true, max a b⟩
def evalN (op : Int) (l : List Cell) : Cell :=
  if op = 3 then (if (l.getD 0 ⟨false, 0⟩).known = false then ⟨false, 0⟩ else ⟨true, 1 - (l.getD 0 ⟨false, 0⟩).n⟩)
  else if op = 4 then logic (l.getD 0 ⟨false, 0⟩) (l.getD 1 ⟨false, 0⟩) 0
  else if op = 5 then logic (l.getD 0 ⟨false, 0⟩) (l.getD 1 ⟨false, 0⟩) 1
  else if op = 6 then
    (if (l.getD 0 ⟨false, 0⟩).known = true then l.getD (2 - (l.getD 0 ⟨false, 0⟩).n).toNat ⟨false, 0⟩
     else if (l.getD 1 ⟨false, 0⟩).known = true ∧ (l.getD 2 ⟨false, 0⟩).known = true ∧ (l.getD 1 ⟨false, 0⟩).n = (l.getD 2 ⟨false, 0⟩).n then l.getD 1 ⟨false, 0⟩ else ⟨false, 0⟩)
  else if (l.getD 0 ⟨false, 0⟩).known = false ∨ (l.getD 1 ⟨false, 0⟩).known = false then ⟨false, 0⟩
  else number op (l.getD 0 ⟨false, 0⟩).n (l.getD 1 ⟨false, 0⟩).n
mutual
def eval : Term → List Cell → Cell
  | .mk o n a, cells => if o = 0 ∨ o = 1 then ⟨true, n⟩ else if o = 2 then valueC n cells else evalN o (evalL a cells)
def evalL : List Term → List Cell → List Cell
  | [], _ => []
  | t :: l, cells => eval t cells :: evalL l cells
end
theorem evalL_map (cells : List Cell) : ∀ l, evalL l cells = l.map fun t => eval t cells
  | [] => rfl
  | t :: l => by simp [evalL, evalL_map cells l]
theorem eval_eq (t : Term) (cells : List Cell) : eval t cells = if t.op = 0 ∨ t.op = 1 then ⟨true, t.n⟩ else if t.op = 2 then valueC t.n cells else evalN t.op (t.args.map fun a => eval a cells) := by
  cases t; simp only [eval, evalL_map, Term.op, Term.n, Term.args]; rfl
def evalT (t : Term) (cells : List Cell) : Cell := if (checkT t).2 ≠ 0 then ⟨false, 0⟩ else eval t cells
end Go.Abs


namespace Go.Abs
theorem chkA_ok : ∀ (l : List Term) (ty : List Int), (chkA l ty).1 = 0 → (∀ a ∈ l, (chk a).2 = 0) ∧ (chkA l ty).2 = ty ++ l.map fun a => (chk a).1
  | [], ty, _ => by simp [chkA]
  | t :: l, ty, h => by
    simp only [chkA] at h ⊢
    split at h
    · rename_i hne; exact absurd h hne
    · rename_i he
      rw [if_neg he]
      obtain ⟨h1, h2⟩ := chkA_ok l _ h
      refine ⟨?_, by rw [h2]; simp⟩
      intro a ha
      rcases List.mem_cons.1 ha with rfl | ha
      · simpa using he
      · exact h1 a ha
theorem chk_ok {t : Term} (h : (chk t).2 = 0) : (∀ a ∈ t.args, (chk a).2 = 0) ∧ chk t = node t (t.args.map fun a => (chk a).1) := by
  rw [chk_eq] at h
  by_cases h0 : (chkA t.args []).1 = 0
  · obtain ⟨h1, h2⟩ := chkA_ok _ _ h0
    refine ⟨h1, ?_⟩
    rw [chk_eq, if_neg (by simp [h0]), h2]; simp
  · rw [if_pos h0] at h; exact absurd h h0
theorem leaf_ty (t : Term) : (leaf t).1 = 0 ∨ (leaf t).1 = 1 := by
  unfold leaf
  split
  · simp
  split
  · split <;> simp
  split
  · split <;> simp
  · cases h : varType t.n with
    | none => simp
    | some k => unfold varType at h; split at h <;> (try split at h) <;> simp_all
theorem shape_len {op : Int} (h : 3 ≤ op) : ((shapeArgs op).length : Int) = if op = 3 then 1 else if op = 6 then 3 else 2 := by
  unfold shapeArgs
  (repeat' split) <;> simp_all <;> omega
theorem node_ty {t : Term} {tys : List Int} (h : ∀ x ∈ tys, x = 0 ∨ x = 1) : (node t tys).1 = 0 ∨ (node t tys).1 = 1 := by
  unfold node
  split
  · simp
  split
  · exact leaf_ty t
  split
  · simp
  rename_i h1 h2 h3
  have hl : tys.length = (shapeArgs t.op).length := by
    by_cases hh : tys.length = (shapeArgs t.op).length
    · exact hh
    · exact absurd (Or.inl hh) h3
  split
  · simp
  · rename_i c hc
    split
    · rename_i hr
      have h6 : t.op = 6 := by
        unfold shapeRes at hr
        by_cases c6 : t.op = 6
        · exact c6
        · exfalso
          rw [if_neg c6] at hr
          (repeat' split at hr) <;> simp at hr
      rw [h6] at hl hc
      have h3 : tys.length = 3 := by rw [hl]; rfl
      match tys, h3 with
      | [a, b, d], _ =>
        have hb := h b (by simp)
        have ha := h a (by simp)
        have hd := h d (by simp)
        have e : shapeArgs 6 = [1, -1, -1] := rfl
        rw [e] at hc
        show c = 0 ∨ c = 1
        rcases ha with rfl | rfl <;> rcases hb with rfl | rfl <;> rcases hd with rfl | rfl <;> simp [fit] at hc <;> omega
    · rename_i hr
      show shapeRes t.op = 0 ∨ shapeRes t.op = 1
      unfold shapeRes at hr ⊢
      (repeat' split at hr) <;> (repeat' split) <;> first | omega | (exfalso; exact hr rfl)
theorem chk_ty : ∀ t : Term, (chk t).1 = 0 ∨ (chk t).1 = 1 := by
  refine Term.ind fun o n a ih => ?_
  rw [chk_eq]
  split
  · simp
  · rename_i h0
    have h0 : (chkA a []).1 = 0 := by simpa [Term.args] using h0
    obtain ⟨h1, h2⟩ := chkA_ok a [] h0
    show (node _ (chkA a []).2).1 = 0 ∨ (node _ (chkA a []).2).1 = 1
    rw [h2]
    refine node_ty ?_
    intro x hx
    simp at hx
    obtain ⟨b, hb, rfl⟩ := hx
    exact ih b hb
end Go.Abs


namespace Go.Abs
def qtype (q : Int) : Int := if q = 6 ∨ q = 7 ∨ q = 10 ∨ q = 12 ∨ q = 13 ∨ q = 14 ∨ q = 15 ∨ q = 16 ∨ q = 20 ∨ q = 21 then 0 else 1
def typeQ (q : Int) : V := if q < 0 ∨ q ≥ 22 then .tup [.int .i64 0, .bool false] else .tup [.int .i64 (qtype q), .bool true]
def chs : List Choice → Int → Bool
  | [], _ => true
  | c :: l, last => if ¬ (last < c.ask ∧ c.ask < 22) ∨ c.by_ < 0 ∨ c.by_ ≥ 5 then false else chs l c.ask
def rls : List Rule → Int → Bool
  | [], _ => true
  | c :: l, last => if ¬ (last < c.ask ∧ c.ask < 22) then false else rls l c.ask
def tys : List Rule → Int
  | [] => 0
  | r :: l => if (checkT r.term).2 ≠ 0 then (checkT r.term).2 else if (checkT r.term).1 ≠ qtype r.ask then 11 else tys l
def checkO (o : Order) : Int := if chs o.choices (-1) = false then 1 else if rls o.rules (-1) = false then 1 else tys o.rules
def ordersO : List Order → Int → Int × Int
  | [], _ => (-1, 0)
  | o :: l, i => if checkO o ≠ 0 then (i, checkO o) else ordersO l (i + 1)
def fewR : List Rule → Bool
  | [] => true
  | r :: l => if few r.term = false then false else fewR l
theorem fewR_drop {l : List Rule} {i : Nat} (h : i < l.length) : fewR (l.drop i) = if few l[i].term = false then false else fewR (l.drop (i + 1)) := by
  rw [List.drop_eq_getElem_cons h, fewR]
def rix : List Rule → Int → Int → Int
  | [], _, _ => -1
  | r :: l, q, i => if r.ask = q then i else rix l q (i + 1)
theorem rix_drop {l : List Rule} {i : Nat} (h : i < l.length) (q n : Int) : rix (l.drop i) q n = if l[i].ask = q then n else rix (l.drop (i + 1)) q (n + 1) := by
  rw [List.drop_eq_getElem_cons h, rix]
def hasI (l : List Int) (v : Int) : Bool := l.any fun x => decide (x = v)
end Go.Abs


set_option maxRecDepth 100000
set_option maxHeartbeats 4000000
namespace Go.Abs
open Go.Proofs
def k1 (i q : Nat) : Int := if q < i then 1 else 0
def k2 (j q : Nat) : Int := if q ∈ [6, 7, 10, 12, 13, 14, 15, 16, 20, 21].take j then 0 else 1
end Go.Abs


set_option maxRecDepth 100000
namespace Go.Abs
open Go.Proofs
theorem s93 (a : Int) : Spec Tryd.prog 65 [.int .i64 a] (fun r => r = .int .i64 (cut a)) := by
  refine Spec.of_awl hf65 okf65 (by simp) ?_
  simp only [Qs, q_exL_eq_34, q_lookO_eq_1, q_vInts_eq_1, q_vInts_eq_2, q_foldV_eq_1, q_vMinmax_eq_1, q_minmaxI_eq_1, q_List_foldl_cons, q_List_foldl_nil, if_true, if_false, Int.reduceNeg, List.nodup_nil, Nat.reduceBEq, uf65, uf65r1, uf65b2, uf65r3, uf65b4]
  congr 3
  unfold cut
  split <;> split <;> omega
theorem s33 (a : Int) : Spec Tryd.prog 63 [.int .i64 a] (fun r => r = varTypeV a) := by
  refine Spec.of_awl hf63 okf63 (by simp) ?_
  simp only [Qs, q_putDL_eq_1, q_lookO_eq_1, q_AE_inBlockL_eq_1, q_cutInt_eq_10, q_vPick_eq_2, q_V_nrm_eq_5, if_true, if_false, List.append_nil, List.nodup_nil, Nat.reduceBEq, q_guardP_eq_2, condB_decide, uf63, uf63r1, uf63b2, uf63r3, uf63b4, uf63r5, uf63b6, uf63b7, uf63r8, uf63b9, uf63b10, uf63r11, uf63b12, uf63b13, uf63b14, uf63r15, uf63b16]
  repeat' (first | with_reducible refine And.intro ?_ ?_ | with_reducible intro _)
  all_goals (simp only [varTypeV, varType]; (repeat' split) <;> simp_all <;> omega)
theorem s71 (t : Term) : Spec Tryd.prog 61 [.agg (encT t)] (fun r => r = pairV (leaf t)) := by
  refine Spec.of_awl hf61 okf61 (by simp) ?_
  simp only [encT_eq, lstC, map_len, Qs, q_wpLQs_eq_2, q_putDL_eq_1, q_AOp_dst_eq_8, q_AOp_dst_eq_20, q_exLQ_eq_9, q_exLQ_eq_22, q_exLQ_eq_29, q_awl_eq_3, q_AE_inBlockL_eq_1, q_cutInt_eq_10, q_vLen_eq_1, q_vPick_eq_2, q_boxK_eq_1, q_V_nrm_eq_5, q_C_norm_eq_1, if_true, if_false, List.append_nil, List.nodup_nil, Nat.reduceAdd, Nat.reduceLeDiff, Nat.reduceBEq, q_guardP_eq_2, condB_decide, condB_beq, List.length_map, uf61, uf61r9, uf61b10, uf61r16, uf61b17, uf61b18, uf61r19, uf61b20, uf61r21, uf61b22, uf61b23, uf61r24, uf61b25, uf61b26, uf61b27, uf61r28, uf61b29, uf61b30, uf61r31, uf61b32, uf61b33, uf61r34, uf61b35, uf61b36, uf61r37, uf61b38, uf61b39, uf61r40, uf61b41, uf61b42, uf61r43, uf61b44]
  repeat' (first | with_reducible refine And.intro ?_ ?_ | with_reducible intro _)
  all_goals first
    | (refine callQ_scalar (s93 t.n) rfl rfl rfl ?_
       simp only [Qs, q_wpLQs_eq_1, q_wpLQs_eq_2, q_exLQ_eq_9, q_exLQ_eq_12, q_exLQ_eq_22, q_cutInt_eq_7, q_C_norm_eq_1, q_V_fz_eq_1, q_K_fz_eq_2, if_true, if_false, List.append_nil, List.nodup_nil, Nat.reduceAdd, Nat.reduceLeDiff, Nat.reduceBEq, condB_bne, uf61r11, uf61b12, uf61r13, uf61b14, uf61b15]
       repeat' (first | with_reducible refine And.intro ?_ ?_ | with_reducible intro _)
       all_goals simp_all [leaf, pairV]
       done)
    | (refine call_scalar (s33 t.n) rfl rfl rfl ?_
       simp only [varTypeV, condB_iff, Qs, q_exL_eq_15, q_vUn_eq_1, q_unV_eq_2, q_mapC_eq_1, q_V_nrm_eq_4, q_V_nrmL_eq_1, q_V_nrmL_eq_2, q_C_norm_eq_1, Bool.not_eq_true', Bool.not_eq_false', List.append_nil, List.nodup_nil, Nat.reduceBEq, uf61r1, uf61b2, uf61r3, uf61b4, uf61b5, uf61r6, uf61b7, uf61b8]
       cases hv : varType t.n <;> simp_all [leaf, pairV]
       done)
    | (simp_all [leaf, pairV]; done)
    | (simp_all [leaf, pairV]; rw [if_neg (by omega)]; simp; done)
    | (simp_all [leaf, pairV]; rw [if_pos (by omega)]; simp; done)
theorem s34 (a : Int) : Spec Tryd.prog 71 [.int .i64 a] (fun r => r = varTypeV a) := by
  refine Spec.of_awl hf71 okf71 (by simp) ?_
  simp only [Qs, q_putDL_eq_1, q_lookO_eq_1, q_cutInt_eq_9, q_cutInt_eq_11, q_vPick_eq_2, q_V_nrm_eq_5, if_true, if_false, List.append_nil, List.nodup_nil, Nat.reduceBEq, q_guardP_eq_2, condB_decide, uf71, uf71r1, uf71b2, uf71r3, uf71b4, uf71b5, uf71r6, uf71b7, uf71b8, uf71r9, uf71b10, uf71b11, uf71r12, uf71b13, uf71b14, uf71r15, uf71b16]
  repeat' (first | with_reducible refine And.intro ?_ ?_ | with_reducible intro _)
  all_goals (simp only [varTypeV, varType]; (repeat' split) <;> simp_all <;> omega)
theorem s73 (a : Int) : Spec Tryd.prog 68 [.int .i64 a] (fun r => r = .int .i64 (arity a)) := by
  refine Spec.of_awl hf68 okf68 (by simp) ?_
  simp only [Qs, q_lookO_eq_1, q_AE_inBlockL_eq_1, if_true, List.nodup_nil, Nat.reduceBEq, condB_beq, uf68, uf68r1, uf68b2, uf68r3, uf68b4, uf68r5, uf68b6, uf68r7, uf68b8, uf68b9, uf68r10, uf68b11, uf68b12, uf68r13, uf68b14, uf68b15, uf68r16, uf68b17, uf68r18, uf68b19, uf68b20, uf68r21, uf68b22, uf68b23, uf68b24, uf68r25, uf68b26, uf68b27, uf68r28, uf68b29]
  repeat' (first | with_reducible refine And.intro ?_ ?_ | with_reducible intro _)
  all_goals (simp only [arity]; (repeat' split) <;> simp_all)
theorem s74 (t : Term) (h0 : t.args = []) (h1 : 0 ≤ t.op) (h2 : t.op ≤ 2) : Spec Tryd.prog 69 [.agg (encT t)] (fun r => r = pairV (leaf t)) := by
  refine Spec.of_awl hf69 okf69 (by simp) ?_
  simp only [encT_eq, lstC, map_len, Qs, q_putDL_eq_1, q_AOp_dst_eq_8, q_AOp_dst_eq_20, q_cutInt_eq_7, q_cutInt_eq_10, q_vPick_eq_2, q_vPick_eq_3, q_boxK_eq_1, q_V_nrm_eq_5, q_C_norm_eq_1, if_true, if_false, Int.reduceNeg, List.append_nil, List.nodup_nil, Nat.reduceAdd, Nat.reduceLeDiff, Nat.reduceBEq, q_guardP_eq_2, condB_decide, condB_beq, condB_bne, uf69, uf69r9, uf69b10, uf69r11, uf69b12, uf69r13, uf69b14, uf69b15, uf69r16, uf69b17, uf69b18, uf69b19, uf69r20, uf69b21, uf69b22, uf69r23, uf69b24, uf69r25, uf69b26, uf69b27, uf69r28, uf69b29, uf69b30, uf69b31, uf69r32, uf69b33, uf69b34, uf69r35, uf69b36]
  repeat' (first | with_reducible refine And.intro ?_ ?_ | with_reducible intro _)
  all_goals first
    | (refine call_scalar (s34 t.n) rfl rfl rfl ?_
       simp only [varTypeV, condB_iff, Qs, q_exL_eq_15, q_vUn_eq_1, q_unV_eq_2, q_mapC_eq_1, q_V_nrm_eq_4, q_V_nrmL_eq_1, q_V_nrmL_eq_2, q_C_norm_eq_1, Bool.not_eq_true', Bool.not_eq_false', List.append_nil, List.nodup_nil, Nat.reduceBEq, uf69r1, uf69b2, uf69r3, uf69b4, uf69b5, uf69r6, uf69b7, uf69b8]
       cases hv : varType t.n <;> simp_all [leaf, pairV]
       done)
    | (simp_all [leaf, pairV, cut_eq]; done)
    | (simp_all [leaf, pairV, cut_eq]; rw [if_neg (by omega)]; simp; done)
    | (simp_all [leaf, pairV, cut_eq]; rw [if_pos (by omega)]; simp; done)
    | (exfalso; omega)
end Go.Abs


set_option maxRecDepth 100000
namespace Go.Abs
open Go.Proofs
theorem s58 : ∀ (lv : Nat) (t : Term) (k : Int), 0 ≤ k → k ≤ 1000000 → lv ≤ 1000000 → Spec Tryd.prog 36 [.agg (encT t), .int .i64 k, .int .i64 lv] (fun r => r = .int .i64 (nodes t k lv)) := by
  intro lv
  induction lv with
  | zero =>
    intro t k h1 h2 h3
    refine Spec.of_awl hf36 okf36 (by simp) ?_
    have hw : IntKind.i64.wrap (k - 1) = k - 1 := wrap_in (by omega) (by omega)
    have hl : ((0 : Nat) : Int) < 1 := by omega
    simp only [encT_eq, lstC, map_len, hw, hl, not_true_eq_false, Qs, q_cutInt_eq_2, q_boxK_eq_1, q_C_norm_eq_1, if_true, Int.reduceNeg, List.nodup_nil, Nat.reduceAdd, Nat.reduceBEq, Int.reduceLT, Int.cast_ofNat_Int, uf36, uf36r16, uf36b17, uf36b18, uf36r19, uf36b20, uf36b21, uf36r22, uf36b23, uf36r24, uf36b25]
    rw [nodes_eq]
    simp
  | succ lv ih =>
    intro t k h1 h2 h3
    refine Spec.of_len hf36 fun hlen => ?_
    replace hlen : t.args.length ≤ 9223372036854775807 := by
      have := hlen (.agg (encT t)) (by simp) (lstC 3 (t.args.map encT)) (by rw [encT_eq]; simp [V.topC]) _ _ _ rfl
      simpa using this
    refine Spec.of_awl hf36 okf36 (by simp) ?_
    have hw : IntKind.i64.wrap (k - 1) = k - 1 := wrap_in (by omega) (by omega)
    have hl : ¬ ((lv + 1 : Nat) : Int) < 1 := by omega
    simp only [encT_eq, lstC, map_len, hw, hl, not_true_eq_false, not_false_eq_true, Qs, q_cutInt_eq_2, q_boxK_eq_1, if_true, Nat.reduceAdd, Nat.reduceBEq, uf36, uf36b12, uf36r13, uf36b14, uf36b15, uf36b18, uf36r19, uf36b20, uf36b21, uf36r22, uf36b23, uf36r24, uf36b25]
    rw [uf36l11]
    refine awl_loop (fun x : Nat × Int => [(1, .int .i64 x.2), (2, .int .i64 ((lv + 1 : Nat) : Int)), (3, .k (.ptr 3 0)), (7, .int .i64 x.1)]) (fun _ => [(3, .var 50 ((encT t).map .c))])
      (fun x => x.1 ≤ t.args.length ∧ -1 ≤ x.2 ∧ x.2 ≤ 1000000 ∧ nodesL (t.args.drop x.1) x.2 lv = nodesL t.args (k - 1) lv) (fun x => t.args.length - x.1) (0, k - 1) rfl (by rw [encT_eq]; rfl) ⟨Nat.zero_le _, by simp only []; omega, by simp only []; omega, rfl⟩ ?_
    rintro ⟨i, n⟩ ⟨hi, hn1, hn2, hj⟩
    simp only [] at hi hn1 hn2 hj
    have hfin : nodes t k ((lv + 1 : Nat) : Int) = nodesL t.args (k - 1) lv := by
      rw [nodes_eq, if_neg hl]
      congr 1; omega
    by_cases hlt : i < t.args.length
    · have c1 : (i : Int) < t.args.length := by omega
      have c3 : IntKind.i64.wrap (((lv + 1 : Nat) : Int) - 1) = (lv : Int) := by rw [wrap_in (by omega) (by omega)]; omega
      have c4 : IntKind.i64.wrap ((i : Int) + 1) = (i : Int) + 1 := wrap_in (by omega) (by omega)
      simp only [encT_eq t, lstC, map_len, map_isEmpty, sz_of hlt, map_at hlt, encT_len, c1, c3, not_true_eq_false, Qs, q_awl_eq_9, q_AE_thenL_eq_2, q_AE_inBlockL_eq_1, q_AE_inBlockL_eq_2, q_cutInt_eq_2, q_cutInt_eq_11, q_vLen_eq_1, q_partV_eq_1, q_vIaddr_eq_1, q_C_norm_eq_1, if_true, if_false, Int.reduceNeg, List.nodup_nil, Nat.reduceAdd, Nat.reduceBEq, Int.toNat_natCast, Int.natCast_nonneg, condB_decide, List.length_map, uf36r1, uf36b2, uf36r3, uf36r4, uf36b5, uf36b6, uf36b7, uf36r8, uf36b9, uf36b10]
      refine ⟨fun h5 => ?_, fun h5 => ?_⟩
      · have hb := nodes_bd t.args[i] n lv (by omega)
        refine call_scalar (ih t.args[i] n (by omega) (by omega) (by omega)) rfl (by simp [lendL, V.norm, C.norm, encT_norm]) rfl ?_
        simp only [c4, Qs, q_cutInt_eq_1, if_true, Int.reduceNeg, Nat.reduceBEq]
        refine Next.intro (i + 1, nodes t.args[i] n lv) rfl rfl ⟨by simp only []; omega, by simp only []; omega, by simp only []; omega, ?_⟩ (by simp only []; omega)
        rw [← hj, nodesL_drop hlt, if_neg (by omega)]
      · rw [hfin, ← hj, nodesL_neg _ _ _ (by omega)]
    · have c1 : ¬ (i : Int) < t.args.length := by omega
      simp only [encT_eq, lstC, map_len, c1, not_true_eq_false, not_false_eq_true, Qs, q_putDL_eq_1, q_awl_eq_9, q_AE_thenL_eq_2, q_AE_inBlockL_eq_2, q_vLen_eq_1, q_vPick_eq_3, q_V_nrm_eq_5, q_C_norm_eq_1, if_true, if_false, Int.reduceNeg, List.nodup_nil, Nat.reduceAdd, Nat.reduceBEq, List.length_map, uf36r1, uf36b2, uf36b7, uf36r8, uf36b9, uf36b10]
      rw [hfin, ← hj, List.drop_eq_nil_of_le (by omega), nodesL]
end Go.Abs


set_option maxRecDepth 100000
namespace Go.Abs
open Go.Proofs
theorem s59 : ∀ (f : Nat) (t : Term), f ≤ 8 → Spec Tryd.prog 50 [.agg (encT t), .int .i64 (9 - (f : Int))] (fun r => r = .int .i64 (meas f t)) := by
  intro f
  induction f with
  | zero =>
    intro t hf
    refine Spec.of_awl hf50 okf50 (by simp) ?_
    have c1 : (9 : Int) - ((0 : Nat) : Int) > 8 := by omega
    simp only [encT_eq, lstC, map_len, c1, not_true_eq_false, Qs, q_cutInt_eq_10, q_boxK_eq_1, q_C_norm_eq_1, if_true, List.nodup_nil, Nat.reduceAdd, Nat.reduceBEq, Int.reduceGT, Int.reduceSub, Int.cast_ofNat_Int, uf50, uf50r24, uf50b25, uf50b26, uf50r27, uf50b28, uf50b29, uf50r30, uf50b31]
    rfl
  | succ f ih =>
    intro t hf
    refine Spec.of_len hf50 fun hlen => ?_
    replace hlen : t.args.length ≤ 9223372036854775807 := by
      have := hlen (.agg (encT t)) (by simp) (lstC 3 (t.args.map encT)) (by rw [encT_eq]; simp [V.topC]) _ _ _ rfl
      simpa using this
    refine Spec.of_awl hf50 okf50 (by simp) ?_
    have hl : ¬ ((9 : Int) - ((f + 1 : Nat) : Int)) > 8 := by omega
    simp only [encT_eq, lstC, map_len, hl, not_true_eq_false, not_false_eq_true, Qs, q_cutInt_eq_10, q_vLen_eq_1, q_boxK_eq_1, if_true, if_false, Nat.reduceAdd, Nat.reduceBEq, List.length_map, uf50, uf50b18, uf50r19, uf50b20, uf50b21, uf50r22, uf50b23, uf50b26, uf50r27, uf50b28, uf50b29, uf50r30, uf50b31]
    rw [uf50l17]
    refine awl_loop (fun x : Nat × Int => [(1, .int .i64 (9 - ((f + 1 : Nat) : Int))), (5, .int .i64 x.2), (11, .k (.c (.list (if (List.map encT t.args).isEmpty = true then 0 else 3) none (List.map encT t.args)))), (12, .int .i64 (t.args.length : Int)), (13, .int .i64 x.1)]) (fun _ => [])
      (fun x => x.1 ≤ t.args.length ∧ 1 ≤ x.2 ∧ x.2 ≤ 60 ∧ measL (meas f) (t.args.drop x.1) x.2 = measL (meas f) t.args 1) (fun x => t.args.length - x.1) (0, 1) rfl rfl ⟨Nat.zero_le _, by simp only []; omega, by simp only []; omega, rfl⟩ ?_
    rintro ⟨i, n⟩ ⟨hi, hn1, hn2, hj⟩
    simp only [] at hi hn1 hn2 hj
    by_cases hlt : i < t.args.length
    · have c1 : (i : Int) < t.args.length := by omega
      have c3 : IntKind.i64.wrap (9 - ((f + 1 : Nat) : Int) + 1) = 9 - (f : Int) := by rw [wrap_in (by omega) (by omega)]; omega
      have c4 : IntKind.i64.wrap ((i : Int) + 1) = (i : Int) + 1 := wrap_in (by omega) (by omega)
      simp only [encT_eq, lstC, map_len, map_isEmpty, sz_of hlt, map_at hlt, c1, c3, not_true_eq_false, Qs, q_lookO_eq_1, q_cutInt_eq_1, q_partV_eq_1, q_vIaddr_eq_1, q_K_noRef_eq_5, if_true, List.append_nil, Nat.reduceAdd, Nat.reduceBEq, Int.toNat_natCast, Int.natCast_nonneg, List.length_map, uf50r3, uf50r7, uf50b8, uf50r9, uf50b10, uf50b11, uf50b12, uf50b13, uf50b14, uf50r15, uf50b16]
      have hb := meas_bd f t.args[i]
      have c5 : IntKind.i64.wrap (n + meas f t.args[i]) = n + meas f t.args[i] := wrap_in (by omega) (by omega)
      refine call_scalar (ih t.args[i] (by omega)) rfl (by simp [lendL, V.norm, C.norm, ← norm_T, map_isEmpty]) rfl ?_
      simp only [c4, c5, Qs, q_awl_eq_9, q_AE_thenL_eq_2, q_AE_inBlockL_eq_1, q_AE_inBlockL_eq_2, q_cutInt_eq_1, q_cutInt_eq_10, q_K_nrm_eq_2, q_C_norm_eq_1, q_C_normRows_eq_1, q_List_isEmpty_nil, if_true, if_false, List.nodup_nil, Nat.reduceBEq, Nat.zero_ne_one, condB_decide, uf50r1, uf50b2, uf50b4, uf50r5, uf50b6]
      refine ⟨fun h6 => ?_, fun h6 => ?_⟩
      · rw [meas, ← hj, measL_drop hlt, if_pos h6]
      · refine Next.intro (i + 1, n + meas f t.args[i]) rfl rfl ⟨by simp only []; omega, by simp only []; omega, by simp only []; omega, ?_⟩ (by simp only []; omega)
        rw [← hj, measL_drop hlt, if_neg h6]
    · have c1 : ¬ (i : Int) < t.args.length := by omega
      simp only [encT_eq, lstC, map_len, c1, not_true_eq_false, not_false_eq_true, Qs, q_lookO_eq_1, q_awl_eq_9, q_AE_thenL_eq_2, q_AE_inBlockL_eq_2, q_C_norm_eq_1, if_true, List.nodup_nil, Nat.reduceBEq, uf50r1, uf50b2, uf50b13, uf50b14, uf50r15, uf50b16]
      rw [meas, ← hj, List.drop_eq_nil_of_le (by omega), measL]
end Go.Abs


set_option maxRecDepth 100000
namespace Go.Abs
open Go.Proofs
theorem s72 (op : Int) : Spec Tryd.prog 62 [.int .i64 op] (fun r => r = shapeV op) := by
  refine Spec.of_awl hf62 okf62 (by simp) ?_
  simp only [Qs, q_exL_eq_7, q_AE_inBlockL_eq_1, q_vBuild_eq_2, q_pureRow_eq_3, q_V_cells_eq_1, q_V_cells_eq_3, q_isArrO_eq_1, q_vRow_eq_1, q_vLits_eq_1, q_vLits_eq_2, q_bsK_eq_1, q_V_nrm_eq_3, q_V_owns_eq_2, q_K_owns_eq_1, q_V_toNew_eq_3, q_K_toNew_eq_2, q_C_norm_eq_1, q_C_normRows_eq_1, q_C_normRows_eq_2, q_List_cons_append, q_List_foldl_cons, q_List_foldl_nil, q_List_replicate_succ, q_List_replicate_zero, q_List_set_cons_zero, q_List_set_cons_succ, q_List_flatMap_cons, q_List_flatMap_nil, q_List_isEmpty_nil, if_true, forall_eq_or_imp, forall_eq, or_false, bne_iff_ne, ne_eq, Int.reduceNeg, List.append_nil, List.mem_cons, List.nodup_nil, List.nodup_cons, Nat.reduceAdd, Nat.reduceEqDiff, Nat.reduceLeDiff, Nat.reduceLT, Nat.reduceBEq, condB_beq, List.not_mem_nil, uf62, uf62r1, uf62b2, uf62r3, uf62b4, uf62r5, uf62b6, uf62r7, uf62b8, uf62r9, uf62b10, uf62r11, uf62b12, uf62b13, uf62r14, uf62b15, uf62b16, uf62r17, uf62b18, uf62b19, uf62r20, uf62b21, uf62b22, uf62r23, uf62b24, uf62r25, uf62b26, uf62b27, uf62b28, uf62r29, uf62b30, uf62b31, uf62r32, uf62b33, uf62b34, uf62r35, uf62b36]
  repeat' (first | apply And.intro | intro _)
  all_goals simp_all [shapeV, shapeArgs, shapeRes, ints]
end Go.Abs


set_option maxRecDepth 100000
set_option maxHeartbeats 4000000
namespace Go.Abs
open Go.Proofs
theorem s60 : ∀ (f : Nat) (t : Term), Narrow f t → Spec Tryd.prog 51 [.agg (encT t)] (fun r => r = pairV (chk t)) := by
  intro f
  induction f with
  | zero => intro t h; exact h.elim
  | succ f ih =>
    intro t hN
    refine Spec.of_awl hf51 okf51 (by simp) ?_
    have hlen : t.args.length ≤ 1000 := hN.1
    simp only [encT_eq t, Qs, q_exL_eq_18, q_boxK_eq_1, q_mkslK_eq_1, if_false, bne_iff_ne, ne_eq, Nat.reduceAdd, Nat.reduceEqDiff, Nat.reduceBEq, Int.toNat_natCast, Int.natCast_nonneg, List.length_map, Int.cast_ofNat_Int, uf51, uf51b79, uf51r80, uf51b81, uf51b82, uf51r83, uf51b84, uf51r85, uf51b86]
    refine ⟨by omega, by omega, by omega, ?_⟩
    rw [uf51l78]
    refine awl_loop (fun x : Nat × List Int => [(1, .k (.ptr 1 0)), (4, .k (.own 16)), (18, lst 3 (t.args.map encT)), (19, .int .i64 (t.args.length : Int)), (20, .int .i64 x.1)])
      (fun x => [(1, .var 50 [.c (.int .i64 t.op), .c (.int .i64 t.n), .c (lstC 3 (t.args.map encT))]), (16, .arr 3 1 (some false) (ints x.2 ++ List.replicate (t.args.length - x.1) [.int .i64 0]))])
      (fun x => x.1 ≤ t.args.length ∧ x.2.length = x.1 ∧ chkA (t.args.drop x.1) x.2 = chkA t.args []) (fun x => t.args.length - x.1) (0, []) rfl rfl ?_ ?_
    · exact ⟨Nat.zero_le _, rfl, rfl⟩
    rintro ⟨i, ty⟩ ⟨hi, hty, hj⟩
    simp only [] at hi hty hj
    by_cases hlt : i < t.args.length
    · have c1 : (i : Int) < t.args.length := by omega
      have c4 : IntKind.i64.wrap ((i : Int) + 1) = (i : Int) + 1 := wrap_in (by omega) (by omega)
      simp only [map_at hlt, encT_len, c1, Qs, q_partV_eq_1, q_K_noRef_eq_2, q_K_noRef_eq_5, q_O_noRef_eq_2, if_true, bne_iff_ne, ne_eq, List.append_nil, Nat.reduceAdd, Nat.reduceEqDiff, Nat.reduceBEq, Int.toNat_natCast, Int.natCast_nonneg, r_vIaddr_lst, List.length_map, encT_len, uf51r60, uf51r68, uf51b69, uf51r70, uf51b71, uf51b72, uf51b73, uf51b74, uf51b75, uf51r76, uf51b77]
      refine call_s (ih t.args[i] (hN.2 _ (List.getElem_mem hlt))) ?_
      simp only [c4, pairV, Qs, q_AE_inBlockL_eq_1, q_cutInt_eq_1, q_cutInt_eq_7, q_vIaddr_eq_2, q_idxO_eq_1, q_vRow_eq_1, q_stArrK_eq_1, q_storeK_eq_2, q_V_nrm_eq_4, q_K_nrm_eq_2, q_V_nrmL_eq_1, q_V_nrmL_eq_2, q_C_norm_eq_1, q_C_normRows_eq_1, q_List_cons_append, q_List_isEmpty_nil, and_true, if_true, List.append_nil, List.nodup_nil, Nat.reduceBEq, Int.toNat_natCast, Int.natCast_nonneg, condB_bne, encT_norm, r_map_nrm, uf51r61, uf51r62, uf51b63, uf51b64, uf51r65, uf51b66, uf51b67]
      refine ⟨fun h6 => ?_, fun h6 => ⟨?_, ?_⟩⟩
      · rw [chkA_drop hlt, if_pos h6] at hj
        rw [chk_eq t, ← hj]
        simp [h6]
      · simp [hty]; omega
      · refine Next.intro (i + 1, ty ++ [(chk t.args[i]).1]) rfl ?_ ⟨by simp only []; omega, by simp [hty], ?_⟩ (by simp only []; omega)
        · rw [set_at hty hlt]; rfl
        · rw [chkA_drop hlt, if_neg (by simp [h6])] at hj
          exact hj
    · have c1 : ¬ (i : Int) < t.args.length := by omega
      have hz : t.args.length - i = 0 := by omega
      simp only [c1, hz, List.replicate_zero, Qs, q_putDL_eq_1, q_AOp_dst_eq_8, q_AOp_dst_eq_20, q_awl_eq_9, q_AE_thenL_eq_2, q_AE_inBlockL_eq_1, q_AE_inBlockL_eq_2, q_cutInt_eq_10, q_vPick_eq_2, q_V_nrm_eq_5, if_true, if_false, List.append_nil, List.nodup_nil, Nat.reduceAdd, Nat.reduceLeDiff, Nat.reduceBEq, q_guardP_eq_2, condB_decide, condB_beq, normRows_ints, uf51r46, uf51b47, uf51r48, uf51b49, uf51r50, uf51b51, uf51b52, uf51r53, uf51b54, uf51b55, uf51r56, uf51b57, uf51b58, uf51b59, uf51b74, uf51b75, uf51r76, uf51b77]
      rw [List.drop_eq_nil_of_le (by omega), chkA] at hj
      have e : chk t = node t ty := by rw [chk_eq t, ← hj]; simp
      rw [e]
      clear ih hj e
      repeat' (first | with_reducible refine And.intro ?_ ?_ | with_reducible intro _)
      any_goals (refine call_s (s71 t) ?_; simp only [pairV, Qs, q_V_nrm_eq_4, q_V_nrm_eq_5, q_V_nrmL_eq_1, q_V_nrmL_eq_2, List.append_nil, List.nodup_nil, Nat.reduceBEq, normRows_ints])
      all_goals try (simp_all [node, pairV]; done)
      refine call_r (s72 t.op) ?_
      simp only [shapeV, Qs, q_putDL_eq_1, q_AOp_dst_eq_8, q_AOp_dst_eq_20, q_lookT_eq_1, q_cutInt_eq_7, q_vLen_eq_2, q_lenO_eq_1, q_vPick_eq_2, q_pureRow_eq_3, q_V_cells_eq_3, q_V_noRef_eq_3, q_V_noRef_eq_6, q_K_noRef_eq_2, q_O_noRef_eq_2, q_V_nrm_eq_3, q_V_nrm_eq_5, q_C_norm_eq_1, q_C_normRows_eq_1, q_regN_eq_2, q_V_reg_eq_2, q_K_regs_eq_1, q_K_regs_eq_2, q_K_regs_eq_3, q_freesL_eq_1, q_freesL_eq_2, q_addsL_eq_1, q_addsL_eq_2, q_regK_eq_1, q_retK_eq_2, q_List_isEmpty_nil, if_true, if_false, or_true, bne_iff_ne, ne_eq, Int.reduceNeg, List.append_nil, List.nodup_nil, Nat.reduceAdd, Nat.reduceMul, Nat.reduceEqDiff, Nat.reduceLeDiff, Nat.reduceBEq, q_guardP_eq_2, condB_bne, normRows_ints, ints_len, uf51b34, uf51r35, uf51b36, uf51b37, uf51r38, uf51b39, uf51r40, uf51b41, uf51b42, uf51r43, uf51b44, uf51b45]
      refine ⟨fun h1 => ?_, fun h1 => ⟨fun h2 => ?_, fun h2 => ?_⟩⟩
      · have h1' : ty.length ≠ (shapeArgs t.op).length := by omega
        have a1 : ¬ (t.op < 0 ∨ t.op > 13) := by omega
        have a2 : ¬ (t.op = 0 ∨ t.op = 1 ∨ t.op = 2) := by omega
        simp only [node, pairV, if_neg a1, if_neg a2, if_pos (Or.inl h1' : ty.length ≠ (shapeArgs t.op).length ∨ t.n ≠ 0)]
      · have a1 : ¬ (t.op < 0 ∨ t.op > 13) := by omega
        have a2 : ¬ (t.op = 0 ∨ t.op = 1 ∨ t.op = 2) := by omega
        simp only [node, pairV, if_neg a1, if_neg a2, if_pos (Or.inr h2 : ty.length ≠ (shapeArgs t.op).length ∨ t.n ≠ 0)]
      · have hl : ty.length = (shapeArgs t.op).length := by omega
        have hs3 := shape_small t.op
        have hnode : node t ty = match fit (shapeArgs t.op) ty (-1) with
            | none => (0, 11)
            | some c => if shapeRes t.op = -1 then (c, 0) else (shapeRes t.op, 0) := by
          have a1 : ¬ (t.op < 0 ∨ t.op > 13) := by omega
          have a2 : ¬ (t.op = 0 ∨ t.op = 1 ∨ t.op = 2) := by omega
          simp only [node, if_neg a1, if_neg a2, hl, h2, ne_eq, not_true_eq_false, or_self, if_false]
          all_goals rfl
        rw [uf51l33]
        refine awl_loop (fun x : Nat × Int => [(4, .k (.own 16)), (9, .k (.ptr 9 0)), (10, .int .i64 x.2), (80, .k (.own 68000)), (81, .int .i64 ((shapeArgs t.op).length : Int)), (82, .int .i64 x.1)])
          (fun _ => [(9, .var 93 [.own 68000, .c (.int .i64 (shapeRes t.op))]), (16, .arr 3 1 (some false) (ints ty)), (68000, .arr 3 1 none (ints (shapeArgs t.op)))])
          (fun x => x.1 ≤ (shapeArgs t.op).length ∧ fit ((shapeArgs t.op).drop x.1) (ty.drop x.1) x.2 = fit (shapeArgs t.op) ty (-1)) (fun x => (shapeArgs t.op).length - x.1) (0, -1) rfl rfl ⟨Nat.zero_le _, rfl⟩ ?_
        rintro ⟨j, c⟩ ⟨hj1, hj2⟩
        simp only [] at hj1 hj2
        by_cases hlj : j < (shapeArgs t.op).length
        · have d1 : (j : Int) < (shapeArgs t.op).length := by omega
          have hlj2 : j < ty.length := by omega
          have d2 : (j : Int) < ty.length := by omega
          have d4 : IntKind.i64.wrap ((j : Int) + 1) = (j : Int) + 1 := wrap_in (by omega) (by omega)
          rw [fit_drop hlj hlj2] at hj2
          have hfail : ty[j] ≠ (if (shapeArgs t.op)[j] = -1 then (if (shapeArgs t.op)[j] = -1 ∧ c = -1 then ty[j] else c) else (shapeArgs t.op)[j]) → pairV (node t ty) = pairV (0, 11) := by
            intro hne
            rw [if_pos hne] at hj2
            rw [hnode, ← hj2]
          have hgo : ∀ c', c' = (if (shapeArgs t.op)[j] = -1 ∧ c = -1 then ty[j] else c) → ¬ (ty[j] ≠ (if (shapeArgs t.op)[j] = -1 then (if (shapeArgs t.op)[j] = -1 ∧ c = -1 then ty[j] else c) else (shapeArgs t.op)[j])) → fit ((shapeArgs t.op).drop (j + 1)) (ty.drop (j + 1)) c' = fit (shapeArgs t.op) ty (-1) := by
            rintro c' rfl hne
            rw [if_neg hne] at hj2; exact hj2
          clear hj2 hnode
          by_cases hw : (shapeArgs t.op)[j] = -1 <;> by_cases hc : c = -1
          all_goals simp only [hw, hc, true_and, false_and, and_true, and_false, if_true, if_false, not_true_eq_false, not_false_eq_true, ne_eq] at hfail hgo
          · simp only [d1, d2, d4, hw, hc, ints_at hlj, ints_at hlj2, Qs, q_AE_inBlockL_eq_1, q_cutInt_eq_1, q_cutInt_eq_7, q_partV_eq_2, q_loadO_eq_2, q_isA_eq_1, q_vLoad_eq_3, q_vIaddr_eq_2, q_idxO_eq_1, q_List_getD_cons_zero, if_true, false_implies, forall_const, Int.reduceNeg, BEq.rfl, List.append_nil, List.nodup_nil, Nat.reduceBEq, Int.toNat_natCast, Int.natCast_nonneg, not_true_eq_false, condB_bne, normRows_ints, ints_len, uf51r9, uf51r10, uf51b11, uf51b12, uf51r13, uf51b14, uf51r15, uf51b16, uf51r17, uf51b18, uf51b19, uf51r20, uf51b21, uf51r22, uf51b23, uf51b24, uf51r25, uf51b26, uf51b27, uf51b28, uf51b29, uf51b30, uf51r31, uf51b32]
            exact Next.intro (j + 1, ty[j]) rfl rfl ⟨by simp only []; omega, hgo _ rfl (by simp)⟩ (by simp only []; omega)
          · simp only [d1, d2, d4, hw, hc, ints_at hlj, ints_at hlj2, Qs, q_AE_inBlockL_eq_1, q_cutInt_eq_1, q_cutInt_eq_7, q_partV_eq_2, q_loadO_eq_2, q_isA_eq_1, q_vLoad_eq_3, q_vIaddr_eq_2, q_idxO_eq_1, q_List_getD_cons_zero, if_true, false_implies, forall_const, Int.reduceNeg, BEq.rfl, List.append_nil, List.nodup_nil, Nat.reduceBEq, Int.toNat_natCast, Int.natCast_nonneg, not_true_eq_false, condB_beq, condB_bne, normRows_ints, ints_len, uf51r9, uf51r10, uf51b11, uf51b12, uf51r13, uf51b14, uf51r15, uf51b16, uf51r17, uf51b18, uf51b19, uf51r20, uf51b21, uf51r22, uf51b23, uf51b24, uf51r25, uf51b26, uf51b27, uf51b28, uf51b29, uf51b30, uf51r31, uf51b32]
            refine ⟨fun h => ?_, fun h => ?_⟩
            · rw [hfail h]; rfl
            · exact Next.intro (j + 1, c) rfl rfl ⟨by simp only []; omega, hgo _ rfl (by simp [h])⟩ (by simp only []; omega)
          · simp only [d1, d2, d4, hw, hc, ints_at hlj, ints_at hlj2, Qs, q_putDL_eq_1, q_AE_inBlockL_eq_1, q_cutInt_eq_1, q_cutInt_eq_7, q_partV_eq_2, q_loadO_eq_2, q_isA_eq_1, q_vLoad_eq_3, q_vIaddr_eq_2, q_idxO_eq_1, q_vPick_eq_3, q_V_nrm_eq_5, q_List_getD_cons_zero, if_true, false_implies, forall_const, Int.reduceNeg, BEq.rfl, List.append_nil, List.nodup_nil, Nat.reduceBEq, Int.toNat_natCast, Int.natCast_nonneg, not_true_eq_false, condB_beq, condB_bne, normRows_ints, ints_len, uf51r9, uf51r10, uf51b11, uf51b12, uf51r13, uf51b14, uf51r15, uf51b16, uf51r17, uf51b18, uf51b19, uf51r20, uf51b21, uf51r22, uf51b23, uf51b24, uf51r25, uf51b26, uf51b27, uf51b28, uf51b29, uf51b30, uf51r31, uf51b32]
            refine ⟨fun h => ?_, fun h => ?_⟩
            · rw [hfail h]; rfl
            · exact Next.intro (j + 1, -1) rfl rfl ⟨by simp only []; omega, hgo _ rfl (by simp [h])⟩ (by simp only []; omega)
          · simp only [d1, d2, d4, hw, hc, ints_at hlj, ints_at hlj2, Qs, q_putDL_eq_1, q_AE_inBlockL_eq_1, q_cutInt_eq_1, q_cutInt_eq_7, q_partV_eq_2, q_loadO_eq_2, q_isA_eq_1, q_vLoad_eq_3, q_vIaddr_eq_2, q_idxO_eq_1, q_vPick_eq_3, q_V_nrm_eq_5, q_List_getD_cons_zero, if_true, false_implies, forall_const, Int.reduceNeg, List.append_nil, List.nodup_nil, Nat.reduceBEq, Int.toNat_natCast, Int.natCast_nonneg, not_true_eq_false, condB_beq, condB_bne, normRows_ints, ints_len, uf51r9, uf51r10, uf51b11, uf51b12, uf51r13, uf51b14, uf51r15, uf51b16, uf51r17, uf51b18, uf51b19, uf51r20, uf51b21, uf51r22, uf51b23, uf51b24, uf51r25, uf51b26, uf51b27, uf51b28, uf51b29, uf51b30, uf51r31, uf51b32]
            refine ⟨fun h => ?_, fun h => ?_⟩
            · rw [hfail h]; rfl
            · exact Next.intro (j + 1, c) rfl rfl ⟨by simp only []; omega, hgo _ rfl (by simp [h])⟩ (by simp only []; omega)
        · have d1 : ¬ (j : Int) < (shapeArgs t.op).length := by omega
          rw [fit_end _ _ _ (List.drop_eq_nil_of_le (by omega))] at hj2
          simp only [d1, Qs, q_awl_eq_9, q_AE_thenL_eq_2, q_AE_inBlockL_eq_2, if_true, if_false, Int.reduceNeg, List.append_nil, List.nodup_nil, Nat.reduceAdd, Nat.reduceBEq, condB_beq, normRows_ints, uf51r1, uf51b2, uf51r3, uf51b4, uf51b5, uf51r6, uf51b7, uf51b8, uf51b29, uf51b30, uf51r31, uf51b32]
          rw [hnode, ← hj2]
          refine ⟨fun h => ?_, fun h => ?_⟩ <;> simp [pairV, h]
end Go.Abs


set_option maxRecDepth 100000
set_option maxHeartbeats 4000000
namespace Go.Abs
open Go.Proofs
def kindK (op : Int) (l : List Int) : Int := if op = 3 ∨ op = 4 ∨ op = 5 ∨ op = 7 ∨ op = 8 then 1 else if op = 6 then l.getD 1 0 else 0
def kindB (op : Int) (l : List Int) : Bool :=
  if op = 3 then decide (l.getD 0 0 = 1) else if op = 4 ∨ op = 5 then decide (l.getD 0 0 = 1 ∧ l.getD 1 0 = 1) else if op = 6 then decide (l.getD 0 0 = 1 ∧ l.getD 1 0 = l.getD 2 0)
  else if op = 8 then decide (l.getD 0 0 = l.getD 1 0) else decide (l.getD 0 0 = 0 ∧ l.getD 1 0 = 0)
theorem list1 {α : Type} {l : List α} (h : l.length = 1) : ∃ a, l = [a] := by
  match l, h with
  | [a], _ => exact ⟨a, rfl⟩
theorem list2 {α : Type} {l : List α} (h : l.length = 2) : ∃ a b, l = [a, b] := by
  match l, h with
  | [a, b], _ => exact ⟨a, b, rfl⟩
theorem list3 {α : Type} {l : List α} (h : l.length = 3) : ∃ a b c, l = [a, b, c] := by
  match l, h with
  | [a, b, c], _ => exact ⟨a, b, c, rfl⟩
theorem beq_dec (a b : Int) : (a == b) = decide (a = b) := by by_cases h : a = b <;> simp [h]
theorem s75 (op : Int) (l : List Int) (h1 : 3 ≤ op) (hl : (l.length : Int) = arity op) : Spec Tryd.prog 70 [.int .i64 op, lst 1 (ints l)] (fun r => r = .tup [.int .i64 (kindK op l), .bool (kindB op l)]) := by
  by_cases e3 : op = 3
  · subst e3
    have h2 : l.length = 1 := by simp [arity] at hl; omega
    obtain ⟨a, rfl⟩ := list1 h2
    refine Spec.of_awl hf70 okf70 (by simp) ?_
    simp only [ints, List.map_cons, List.map_nil, List.length_cons, List.length_nil, List.getD_cons_zero, List.getD_cons_succ, Qs, q_wpLQs_eq_1, q_wpLQs_eq_2, q_exLQ_eq_1, q_exLQ_eq_9, q_exLQ_eq_12, q_exLQ_eq_24, q_lookO_eq_1, q_awl_eq_3, q_partV_eq_2, q_K_nrm_eq_2, q_C_normRows_eq_1, q_C_normRows_eq_2, if_true, BEq.rfl, List.append_nil, List.nodup_nil, Nat.reduceAdd, Nat.reduceBEq, Int.toNat_zero, r_vIaddr_lst, Int.reduceLT, Int.reduceLE, Int.cast_ofNat_Int, uf70, uf70r3, uf70b4, uf70b28, uf70r29, uf70b30, uf70b31, uf70r32, uf70b33, uf70b34, uf70r35, uf70b36]
    simp [kindK, kindB, beq_dec]
  by_cases e6 : op = 6
  · subst e6
    have h2 : l.length = 3 := by simp [arity] at hl; omega
    obtain ⟨a, b, c, rfl⟩ := list3 h2
    clear hl h2 e3 h1
    refine Spec.of_awl hf70 okf70 (by simp) ?_
    simp only [ints, List.map_cons, List.map_nil, List.length_cons, List.length_nil, List.getD_cons_zero, List.getD_cons_succ, Qs, q_wpLQs_eq_1, q_wpLQs_eq_2, q_putDL_eq_1, q_AOp_dst_eq_8, q_AOp_dst_eq_22, q_exLQ_eq_1, q_exLQ_eq_3, q_exLQ_eq_9, q_exLQ_eq_12, q_exLQ_eq_24, q_lookO_eq_1, q_awl_eq_3, q_partV_eq_2, q_vPick_eq_3, q_V_nrm_eq_5, q_K_nrm_eq_2, q_C_normRows_eq_1, q_C_normRows_eq_2, if_true, BEq.rfl, List.append_nil, List.nodup_nil, Nat.reduceAdd, Nat.reduceBEq, Int.toNat_zero, q_exKQ_eq_1, condB_beq, r_vIaddr_lst, Int.reduceLT, Int.reduceLE, Int.reduceToNat, Int.reduceBEq, Int.cast_ofNat_Int, uf70, uf70r7, uf70b8, uf70b19, uf70r20, uf70b21, uf70b22, uf70r23, uf70b24, uf70r25, uf70b26, uf70b27, uf70b28, uf70r29, uf70b30, uf70b31, uf70r32, uf70b33, uf70b34, uf70r35, uf70b36]
    repeat' (first | with_reducible refine And.intro ?_ ?_ | with_reducible intro _)
    all_goals simp_all [kindK, kindB, beq_dec]
  have h2 : l.length = 2 := by rw [arity, if_neg (by omega), if_neg e3, if_neg e6] at hl; omega
  obtain ⟨a, b, rfl⟩ := list2 h2
  clear hl h2
  refine Spec.of_awl hf70 okf70 (by simp) ?_
  simp only [e3, e6, ints, List.map_cons, List.map_nil, List.length_cons, List.length_nil, List.getD_cons_zero, List.getD_cons_succ, Qs, q_wpLQs_eq_1, q_wpLQs_eq_2, q_putDL_eq_1, q_AOp_dst_eq_8, q_AOp_dst_eq_22, q_exLQ_eq_1, q_exLQ_eq_3, q_exLQ_eq_9, q_exLQ_eq_12, q_exLQ_eq_24, q_lookO_eq_1, q_awl_eq_3, q_AE_inBlockL_eq_1, q_partV_eq_2, q_vPick_eq_3, q_V_nrm_eq_5, q_K_nrm_eq_2, q_C_normRows_eq_1, q_C_normRows_eq_2, if_true, false_implies, forall_const, List.append_nil, List.nodup_nil, Nat.reduceAdd, Nat.reduceBEq, Int.toNat_zero, q_exKQ_eq_1, condB_beq, r_vIaddr_lst, Int.reduceLT, Int.reduceLE, Int.reduceToNat, Int.cast_ofNat_Int, uf70, uf70r1, uf70b2, uf70r3, uf70b4, uf70r5, uf70b6, uf70r7, uf70b8, uf70r9, uf70b10, uf70r11, uf70b12, uf70b13, uf70r14, uf70b15, uf70b16, uf70r17, uf70b18, uf70b19, uf70r20, uf70b21, uf70b22, uf70r23, uf70b24, uf70r25, uf70b26, uf70b27, uf70b28, uf70r29, uf70b30, uf70b31, uf70r32, uf70b33, uf70b34, uf70r35, uf70b36]
  repeat' (first | with_reducible refine And.intro ?_ ?_ | with_reducible intro _)
  all_goals simp_all [kindK, kindB, beq_dec]
theorem s30 (t : Term) : Spec Tryd.prog 24 [.agg (encT t)] (fun r => r = .bool (few t)) := by
  refine Spec.of_awl hf24 okf24 (by simp) ?_
  simp only [Qs, q_boxK_eq_1, Nat.reduceBEq, List.length_map, encT_len, uf24, uf24r1, uf24b2, uf24r3, uf24b4]
  refine call_s (s58 20 t 100 (by omega) (by omega) (by omega)) ?_
  simp only [Qs, q_cutInt_eq_11, if_true, List.nodup_nil, encT_norm, Int.cast_ofNat_Int, r_map_nrm]
  rfl
theorem s31 (t : Term) : Spec Tryd.prog 39 [.agg (encT t)] (fun r => r = pairV (checkT t)) := by
  refine Spec.of_awl hf39 okf39 (by simp) ?_
  simp only [Qs, q_boxK_eq_1, Nat.reduceBEq, List.length_map, encT_len, uf39, uf39r6, uf39b7, uf39b8, uf39r9, uf39b10]
  refine call_s (s59 8 t (by omega)) ?_
  have hm := meas_check t
  simp only [Qs, q_cutInt_eq_10, if_true, List.append_nil, List.nodup_nil, Nat.reduceBEq, condB_decide, encT_norm, List.length_map, encT_len, r_map_nrm, uf39r1, uf39b2, uf39r3, uf39b4, uf39b5]
  refine ⟨fun h => ?_, fun h => ?_⟩
  · rw [checkT, if_pos (hm.1 h)]; rfl
  · have h0 : ¬ nodes t 60 8 < 0 := fun h' => h (hm.2 h')
    refine call_s (s60 8 t (narrow_of 8 t 60 (by omega) (by simp; omega))) ?_
    simp only [pairV, Qs, q_V_nrm_eq_4, q_V_nrmL_eq_1, q_V_nrmL_eq_2, List.append_nil, List.nodup_nil, Nat.reduceBEq, encT_norm, r_map_nrm]
    rw [checkT, if_neg h0]
end Go.Abs


set_option maxRecDepth 100000
set_option maxHeartbeats 4000000
namespace Go.Abs
open Go.Proofs
theorem kind_fit {op : Int} {ty : List Int} (h1 : 3 ≤ op) (h2 : op ≤ 13) (hl : (ty.length : Int) = arity op) (ht : ∀ x ∈ ty, x = 0 ∨ x = 1) :
    (match fit (shapeArgs op) ty (-1) with | none => ((0 : Int), (11 : Int)) | some c => if shapeRes op = -1 then (c, 0) else (shapeRes op, 0)) = if kindB op ty = true then (kindK op ty, 0) else (0, 11) := by
  have hop : op = 3 ∨ op = 4 ∨ op = 5 ∨ op = 6 ∨ op = 7 ∨ op = 8 ∨ op = 9 ∨ op = 10 ∨ op = 11 ∨ op = 12 ∨ op = 13 := by omega
  by_cases e3 : op = 3
  · subst e3
    have hl2 : ty.length = 1 := by simp [arity] at hl; omega
    obtain ⟨a, rfl⟩ := list1 hl2
    rcases ht a (by simp) with rfl | rfl <;> rfl
  by_cases e6 : op = 6
  · subst e6
    have hl2 : ty.length = 3 := by simp [arity] at hl; omega
    obtain ⟨a, b, c, rfl⟩ := list3 hl2
    rcases ht a (by simp) with rfl | rfl <;> rcases ht b (by simp) with rfl | rfl <;> rcases ht c (by simp) with rfl | rfl <;> rfl
  have hl2 : ty.length = 2 := by rw [arity, if_neg (by omega), if_neg e3, if_neg e6] at hl; omega
  obtain ⟨a, b, rfl⟩ := list2 hl2
  rcases hop with rfl | rfl | rfl | rfl | rfl | rfl | rfl | rfl | rfl | rfl | rfl
  all_goals first
    | exact absurd rfl e3
    | exact absurd rfl e6
    | (rcases ht a (by simp) with rfl | rfl <;> rcases ht b (by simp) with rfl | rfl <;> rfl)
theorem arity_shape {op : Int} (h : 3 ≤ op) : arity op = (shapeArgs op).length := by
  rw [shape_len h, arity, if_neg (by omega)]
theorem node_typed (t : Term) (ty : List Int) (ht : ∀ x ∈ ty, x = 0 ∨ x = 1) (h1 : 0 ≤ t.op) (h2 : t.op ≤ 13) (hl : (ty.length : Int) = arity t.op) (hn : 3 ≤ t.op) (h0 : t.n = 0) :
    node t ty = if kindB t.op ty = true then (kindK t.op ty, 0) else (0, 11) := by
  have hsh := arity_shape hn
  rw [← kind_fit hn h2 hl ht]
  have a1 : ¬ (t.op < 0 ∨ t.op > 13) := by omega
  have a2 : ¬ (t.op = 0 ∨ t.op = 1 ∨ t.op = 2) := by omega
  have a3 : ¬ (ty.length ≠ (shapeArgs t.op).length ∨ t.n ≠ 0) := by omega
  simp only [node, if_neg a1, if_neg a2, if_neg a3]
  all_goals rfl
theorem s61 : ∀ (f : Nat) (t : Term), Narrow f t → Spec Tryd.prog 55 [.agg (encT t)] (fun r => r = pairV (chk t)) := by
  intro f
  induction f with
  | zero => intro t h; exact h.elim
  | succ f ih =>
    intro t hN
    refine Spec.of_awlS hf55 okf55 (by simp) fun S hS => ?_
    have hlen : t.args.length ≤ 1000 := hN.1
    simp only [encT_eq t, Qs, q_exL_eq_7, q_boxK_eq_1, q_vLits_eq_1, q_bsK_eq_1, q_List_foldl_nil, q_List_replicate_zero, false_implies, implies_true, bne_iff_ne, ne_eq, Nat.reduceEqDiff, Nat.reduceBEq, List.not_mem_nil, implies_true, uf55, uf55b48, uf55r49, uf55b50, uf55b51, uf55r52, uf55b53, uf55r54, uf55b55]
    rw [uf55l47]
    refine awl_loop (fun x : Nat × List Int => [(1, .k (.ptr 1 0)), (4, .k (.own 11)), (5, .int .i64 x.1)])
      (fun x => [(1, .var 50 [.c (.int .i64 t.op), .c (.int .i64 t.n), .c (lstC 3 (t.args.map encT))]), (11, .arr 3 1 (some false) (ints x.2))])
      (fun x => x.1 ≤ t.args.length ∧ x.2.length = x.1 ∧ chkA (t.args.drop x.1) x.2 = chkA t.args [] ∧ (∀ y ∈ x.2, y = 0 ∨ y = 1)) (fun x => t.args.length - x.1) (0, []) rfl rfl ⟨Nat.zero_le _, rfl, rfl, by simp⟩ ?_
    rintro ⟨i, ty⟩ ⟨hi, hty, hj, hb⟩
    simp only [] at hi hty hj hb
    by_cases hlt : i < t.args.length
    · have c1 : (i : Int) < t.args.length := by omega
      have c4 : IntKind.i64.wrap ((i : Int) + 1) = (i : Int) + 1 := wrap_in (by omega) (by omega)
      simp only [map_at hlt, encT_len, c1, Qs, q_partV_eq_1, if_true, if_false, Nat.reduceAdd, Nat.reduceBEq, Int.toNat_natCast, Int.natCast_nonneg, r_vIaddr_lst, List.length_map, uf55r31, uf55r39, uf55b40, uf55b41, uf55b42, uf55b43, uf55r44, uf55b45, uf55b46]
      refine call_s (ih t.args[i] (hN.2 _ (List.getElem_mem hlt))) ?_
      simp only [c4, pairV, Qs, q_exL_eq_7, q_exL_eq_33, q_AE_inBlockL_eq_1, q_cutInt_eq_1, q_cutInt_eq_7, q_nlApp_eq_2, q_vRow_eq_1, q_vLits_eq_1, q_vLits_eq_2, q_bsK_eq_1, q_srcO_eq_1, q_srcV_eq_2, q_appK_eq_1, q_appendK_eq_1, q_delO_eq_1, q_delO_eq_2, q_V_noRef_eq_4, q_K_noRef_eq_2, q_K_noRef_eq_5, q_O_noRef_eq_2, q_V_noRefL_eq_1, q_V_noRefL_eq_2, q_V_scrub_eq_1, q_V_scrub_eq_3, q_V_scrub_eq_5, q_K_scrub_eq_1, q_K_scrub_eq_2, q_K_scrub_eq_5, q_O_scrub_eq_1, q_O_scrub_eq_2, q_V_nrm_eq_4, q_K_nrm_eq_2, q_V_nrmL_eq_1, q_V_nrmL_eq_2, q_List_foldl_cons, q_List_foldl_nil, q_List_replicate_succ, q_List_replicate_zero, q_List_set_cons_zero, if_true, if_false, forall_eq, or_false, bne_iff_ne, ne_eq, List.append_nil, List.mem_cons, List.nodup_nil, Nat.reduceEqDiff, Nat.reduceLeDiff, Nat.reduceLT, Nat.reduceBEq, condB_bne, normRows_ints, encT_norm, ints_len, List.not_mem_nil, uf55r32, uf55r33, uf55b34, uf55b35, uf55r36, uf55b37, uf55b38]
      refine ⟨fun h6 => ?_, fun h6 => ?_⟩
      · rw [chkA_drop hlt, if_pos h6] at hj
        refine fin hS ?_
        rw [chk_eq t, ← hj]
        simp [h6, pairV]
      · refine ⟨by omega, by omega, Next.intro (i + 1, ty ++ [(chk t.args[i]).1]) rfl (by rw [ints_snoc]; rfl) ⟨by simp only []; omega, by simp [hty], ?_, ?_⟩ (by simp only []; omega)⟩
        · rw [chkA_drop hlt, if_neg (by simp [h6])] at hj
          exact hj
        · intro y hy
          rcases List.mem_append.1 hy with hy | hy
          · exact hb y hy
          · simp at hy; rw [hy]; exact chk_ty _
    · have c1 : ¬ (i : Int) < t.args.length := by omega
      simp only [c1, Qs, q_putDL_eq_1, q_AOp_dst_eq_8, q_AOp_dst_eq_20, q_awl_eq_9, q_AE_thenL_eq_2, q_AE_inBlockL_eq_2, q_cutInt_eq_11, q_vPick_eq_2, q_V_nrm_eq_5, if_true, if_false, List.append_nil, List.nodup_nil, Nat.reduceAdd, Nat.reduceLeDiff, Nat.reduceBEq, q_guardP_eq_2, condB_decide, normRows_ints, List.length_map, uf55r23, uf55b24, uf55r25, uf55b26, uf55b27, uf55r28, uf55b29, uf55b30, uf55b43, uf55r44, uf55b45, uf55b46]
      rw [List.drop_eq_nil_of_le (by omega), chkA] at hj
      have e : chk t = node t ty := by rw [chk_eq t, ← hj]; simp
      rw [e] at hS
      clear ih hj e
      have hlt2 : ty.length = t.args.length := by omega
      refine ⟨fun h => ?_, fun h1 => ⟨fun h => ?_, fun h2 => ?_⟩⟩
      · exact fin hS (by simp only [node, if_pos (Or.inl h : t.op < 0 ∨ t.op > 13)]; rfl)
      · exact fin hS (by simp only [node, if_pos (Or.inr (by omega) : t.op < 0 ∨ t.op > 13)]; rfl)
      have a1 : ¬ (t.op < 0 ∨ t.op > 13) := by omega
      refine call_s (s73 t.op) ?_
      simp only [Qs, q_putDL_eq_1, q_AOp_dst_eq_3, q_AOp_dst_eq_8, q_AOp_dst_eq_20, q_cutInt_eq_7, q_cutInt_eq_10, q_vLen_eq_2, q_lenO_eq_1, q_vPick_eq_2, q_vPick_eq_3, q_V_nrm_eq_5, if_true, if_false, List.append_nil, List.nodup_nil, Nat.reduceAdd, Nat.reduceLeDiff, Nat.reduceBEq, q_guardP_eq_2, q_guardP_eq_3, condB_decide, condB_beq, condB_bne, normRows_ints, ints_len, uf55r9, uf55b10, uf55r11, uf55b12, uf55b13, uf55r14, uf55b15, uf55b16, uf55r17, uf55b18, uf55b19, uf55r20, uf55b21, uf55b22]
      by_cases hop : t.op = 0 ∨ t.op = 1 ∨ t.op = 2
      · have har : arity t.op = 0 := by rw [arity, if_pos hop]
        have hnode : node t ty = leaf t := by simp only [node, if_neg a1, if_pos hop]
        simp only [har, Qs, and_true, false_implies, forall_const, BEq.rfl, not_true_eq_false, Int.reduceGT]
        refine ⟨fun h => ?_, fun h => ?_⟩
        · refine fin hS ?_
          rw [hnode, leaf, if_pos (by omega)]; rfl
        · have h0 : t.args = [] := List.eq_nil_of_length_eq_zero (by omega)
          refine call_s (s74 t h0 (by omega) (by omega)) ?_
          simp only [pairV, Qs, q_V_nrm_eq_4, q_V_nrm_eq_5, q_V_nrmL_eq_1, q_V_nrmL_eq_2, List.append_nil, List.nodup_nil, Nat.reduceBEq, normRows_ints]
          exact fin hS (by rw [hnode]; rfl)
      · have hsh := arity_shape (op := t.op) (by omega)
        have har : arity t.op ≠ 0 := by rw [hsh, shape_len (by omega)]; (repeat' split) <;> simp
        have har2 : arity t.op > 0 := by rw [hsh, shape_len (by omega)]; (repeat' split) <;> simp
        simp only [har, har2, Qs, and_true, false_implies, forall_const, not_true_eq_false]
        refine ⟨fun h => ?_, fun h => ⟨fun h3 => ?_, fun h3 => ?_⟩⟩
        · refine fin hS ?_
          simp only [node, if_neg a1, if_neg hop, if_pos (Or.inl (by omega) : ty.length ≠ (shapeArgs t.op).length ∨ t.n ≠ 0)]; rfl
        · refine fin hS ?_
          simp only [node, if_neg a1, if_neg hop, if_pos (Or.inr h3 : ty.length ≠ (shapeArgs t.op).length ∨ t.n ≠ 0)]; rfl
        · refine call_s (s75 t.op ty (by omega) (by omega)) ?_
          rw [node_typed t ty hb (by omega) (by omega) (by omega) (by omega) h3] at hS
          by_cases hk : kindB t.op ty = true
          · rw [if_pos hk] at hS
            simp only [hk, Qs, q_exL_eq_15, q_vUn_eq_1, q_unV_eq_2, q_mapC_eq_1, q_V_nrm_eq_4, q_V_nrmL_eq_1, q_V_nrmL_eq_2, List.append_nil, List.nodup_nil, Nat.reduceBEq, normRows_ints, uf55r1, uf55b2, uf55b5, uf55r6, uf55b7, uf55b8]
            exact fin hS rfl
          · rw [if_neg hk] at hS
            have hk : kindB t.op ty = false := by simpa using hk
            simp only [hk, Qs, q_exL_eq_15, q_vUn_eq_1, q_unV_eq_2, q_mapC_eq_1, q_V_nrm_eq_4, q_V_nrmL_eq_1, q_V_nrmL_eq_2, List.append_nil, List.nodup_nil, Nat.reduceBEq, normRows_ints, uf55r3, uf55b4, uf55b5, uf55r6, uf55b7, uf55b8]
            exact fin hS rfl
theorem s32 (t : Term) : Spec Tryd.prog 41 [.agg (encT t)] (fun r => r = pairV (checkT t)) := by
  refine Spec.of_awlS hf41 okf41 (by simp) fun S hS => ?_
  simp only [Qs, q_boxK_eq_1, Nat.reduceBEq, List.length_map, encT_len, uf41, uf41r6, uf41b7, uf41b8, uf41r9, uf41b10]
  refine call_s (s58 8 t 60 (by omega) (by omega) (by omega)) ?_
  simp only [Qs, if_true, List.append_nil, List.nodup_nil, Nat.reduceBEq, condB_decide, encT_norm, List.length_map, encT_len, Int.cast_ofNat_Int, r_map_nrm, uf41r1, uf41b2, uf41r3, uf41b4, uf41b5]
  refine ⟨fun h => ?_, fun h => ?_⟩
  · refine fin hS ?_
    rw [checkT, if_pos h]; rfl
  · refine call_s (s61 8 t (narrow_of 8 t 60 (by omega) (by simp; omega))) ?_
    simp only [pairV, Qs, q_V_nrm_eq_4, q_V_nrmL_eq_1, q_V_nrmL_eq_2, List.append_nil, List.nodup_nil, Nat.reduceBEq, encT_norm, r_map_nrm]
    refine fin hS ?_
    rw [checkT, if_neg h]; rfl
theorem s63 : ∀ (t : Term) (v : Int), Spec Tryd.prog 49 [.agg (encT t), .int .i64 v] (fun r => r = .bool (used t v)) := by
  refine Term.ind fun o n a ih v => ?_
  generalize ht : Term.mk o n a = t
  have ha : a = t.args := by rw [← ht]; rfl
  rw [ha] at ih
  clear ht ha o n a
  refine Spec.of_len hf49 fun hlen => ?_
  replace hlen : t.args.length ≤ 9223372036854775807 := by
    have := hlen (.agg (encT t)) (by simp) (lstC 3 (t.args.map encT)) (by rw [encT_eq]; simp [V.topC]) _ _ _ rfl
    simpa using this
  refine Spec.of_awlS hf49 okf49 (by simp) fun S hS => ?_
  rw [used_eq] at hS
  by_cases h2 : t.op = 2
  · rw [if_pos h2] at hS
    simp only [encT_eq t, h2, Qs, q_boxK_eq_1, if_true, if_false, BEq.rfl, List.nodup_nil, Nat.reduceAdd, Nat.reduceLeDiff, Nat.reduceBEq, uf49, uf49r22, uf49b23, uf49b24, uf49r25, uf49b26, uf49b27, uf49r28, uf49b29]
    refine fin hS ?_
    by_cases h3 : t.n = v <;> simp [h3]
  · rw [if_neg h2] at hS
    simp only [encT_eq t, h2, Qs, q_boxK_eq_1, if_true, if_false, false_implies, forall_const, List.nodup_nil, Nat.reduceAdd, Nat.reduceLeDiff, Nat.reduceBEq, condB_beq, uf49, uf49b18, uf49r19, uf49b20, uf49b21, uf49r22, uf49b23, uf49b24, uf49r25, uf49b26, uf49b27, uf49r28, uf49b29]
    rw [uf49l17]
    refine awl_loop (fun i : Nat => [(1, .int .i64 v), (2, .k (.ptr 2 0)), (5, .int .i64 i)])
      (fun x => [(2, .var 50 [.c (.int .i64 t.op), .c (.int .i64 t.n), .c (lstC 3 (t.args.map encT))])])
      (fun i => i ≤ t.args.length ∧ usedL (t.args.drop i) v = usedL t.args v) (fun i => t.args.length - i) 0 rfl rfl ⟨Nat.zero_le _, rfl⟩ ?_
    rintro i ⟨hi, hj⟩
    by_cases hlt : i < t.args.length
    · have c1 : (i : Int) < t.args.length := by omega
      have c4 : IntKind.i64.wrap ((i : Int) + 1) = (i : Int) + 1 := wrap_in (by omega) (by omega)
      simp only [map_at hlt, encT_len, c1, Qs, q_partV_eq_1, if_true, if_false, Nat.reduceAdd, Nat.reduceBEq, Int.toNat_natCast, Int.natCast_nonneg, r_vIaddr_lst, List.length_map, uf49r3, uf49r9, uf49b10, uf49b11, uf49b12, uf49b13, uf49r14, uf49b15, uf49b16]
      refine call_s (ih t.args[i] (List.getElem_mem hlt) v) ?_
      rw [usedL_drop hlt] at hj
      cases hu : used t.args[i] v
      · rw [hu, if_neg (by simp)] at hj
        simp only [c4, hu, Qs, q_AE_inBlockL_eq_1, q_cutInt_eq_1, if_true, Nat.reduceBEq, uf49b6, uf49r7, uf49b8]
        exact Next.intro (i + 1) rfl rfl ⟨by omega, hj⟩ (by omega)
      · rw [hu, if_pos rfl] at hj
        simp only [c4, hu, Qs, q_K_nrm_eq_2, List.nodup_nil, encT_norm, uf49r4, uf49b5, uf49b6, uf49r7, uf49b8]
        exact fin hS (by rw [← hj])
    · have c1 : ¬ (i : Int) < t.args.length := by omega
      simp only [c1, Qs, q_awl_eq_9, q_AE_thenL_eq_2, q_AE_inBlockL_eq_2, if_true, if_false, List.nodup_nil, Nat.reduceAdd, Nat.reduceBEq, List.length_map, uf49r1, uf49b2, uf49b13, uf49r14, uf49b15, uf49b16]
      rw [List.drop_eq_nil_of_le (by omega), usedL] at hj
      exact fin hS (by rw [← hj])
end Go.Abs


set_option maxRecDepth 100000
set_option maxHeartbeats 4000000
namespace Go.Abs
open Go.Proofs
end Go.Abs


set_option maxRecDepth 100000
namespace Go.Proofs
open Go.Shelf
def Tryd.laysSort_ren : Go.Shelf.Ren :=
  {
    f := fun x =>
      match x with
      | 189 => 45
      | 125 => 60
      | 257 => 59
      | 128 => 84
      | 129 => 85
      | 294 => 75
      | 295 => 76
      | 296 => 77
      | 297 => 78
      | 298 => 79
      | 299 => 80
      | 216 => 81
      | 300 => 82
      | 301 => 83
      | 328 => 87
      | 329 => 88
      | 330 => 89
      | 331 => 90
      | 332 => 91
      | 215 => 92
      | 343 => 94
      | n => n,
    t := fun x =>
      match x with
      | 28 => 41
      | 3 => 3
      | 46 => 91
      | 0 => 0
      | 51 => 110
      | 53 => 112
      | 4 => 4
      | 183 => 103
      | 182 => 102
      | 131 => 38
      | 5 => 5
      | 9 => 9
      | 218 => 113
      | 222 => 117
      | 228 => 121
      | 229 => 122
      | n => n,
    g := fun n => n }
theorem Tryd.laysSort : Lays.n189 Tryd.prog Tryd.laysSort_ren :=
  { mixed := Eq.refl true, f125 := Eq.trans Tryd.func60 (congrArg some (Eq.refl (Body.n125 Tryd.laysSort_ren))),
    f128 := Eq.trans Tryd.func84 (congrArg some (Eq.refl (Body.n128 Tryd.laysSort_ren))),
    f129 := Eq.trans Tryd.func85 (congrArg some (Eq.refl (Body.n129 Tryd.laysSort_ren))),
    f189 := Eq.trans Tryd.func45 (congrArg some (Eq.refl (Body.n189 Tryd.laysSort_ren))),
    f215 := Eq.trans Tryd.func92 (congrArg some (Eq.refl (Body.n215 Tryd.laysSort_ren))),
    f216 := Eq.trans Tryd.func81 (congrArg some (Eq.refl (Body.n216 Tryd.laysSort_ren))),
    f257 := Eq.trans Tryd.func59 (congrArg some (Eq.refl (Body.n257 Tryd.laysSort_ren))),
    f294 := Eq.trans Tryd.func75 (congrArg some (Eq.refl (Body.n294 Tryd.laysSort_ren))),
    f295 := Eq.trans Tryd.func76 (congrArg some (Eq.refl (Body.n295 Tryd.laysSort_ren))),
    f296 := Eq.trans Tryd.func77 (congrArg some (Eq.refl (Body.n296 Tryd.laysSort_ren))),
    f297 := Eq.trans Tryd.func78 (congrArg some (Eq.refl (Body.n297 Tryd.laysSort_ren))),
    f298 := Eq.trans Tryd.func79 (congrArg some (Eq.refl (Body.n298 Tryd.laysSort_ren))),
    f299 := Eq.trans Tryd.func80 (congrArg some (Eq.refl (Body.n299 Tryd.laysSort_ren))),
    f300 := Eq.trans Tryd.func82 (congrArg some (Eq.refl (Body.n300 Tryd.laysSort_ren))),
    f301 := Eq.trans Tryd.func83 (congrArg some (Eq.refl (Body.n301 Tryd.laysSort_ren))),
    f328 := Eq.trans Tryd.func87 (congrArg some (Eq.refl (Body.n328 Tryd.laysSort_ren))),
    f329 := Eq.trans Tryd.func88 (congrArg some (Eq.refl (Body.n329 Tryd.laysSort_ren))),
    f330 := Eq.trans Tryd.func89 (congrArg some (Eq.refl (Body.n330 Tryd.laysSort_ren))),
    f331 := Eq.trans Tryd.func90 (congrArg some (Eq.refl (Body.n331 Tryd.laysSort_ren))),
    f332 := Eq.trans Tryd.func91 (congrArg some (Eq.refl (Body.n332 Tryd.laysSort_ren))),
    f343 := Eq.trans Tryd.func94 (congrArg some (Eq.refl (Body.n343 Tryd.laysSort_ren))), t0 := Tryd.underlying0,
    a0 := Tryd.isAgg0, z0 := Tryd.sizeOf0, v0 := Tryd.zeroValue0, t3 := Tryd.underlying3, a3 := Tryd.isAgg3, z3 := Tryd.sizeOf3,
    v3 := Tryd.zeroValue3, t4 := Tryd.underlying4, a4 := Tryd.isAgg4, z4 := Tryd.sizeOf4, v4 := Tryd.zeroValue4,
    t5 := Tryd.underlying5, a5 := Tryd.isAgg5, z5 := Tryd.sizeOf5, v5 := Tryd.zeroValue5, t9 := Tryd.underlying9,
    a9 := Tryd.isAgg9, z9 := Tryd.sizeOf9, v9 := Tryd.zeroValue9, t28 := Tryd.underlying41, a28 := Tryd.isAgg41,
    z28 := Tryd.sizeOf41, v28 := Tryd.zeroValue41, t46 := Tryd.underlying91, a46 := Tryd.isAgg91, z46 := Tryd.sizeOf91,
    v46 := Tryd.zeroValue91, t51 := Tryd.underlying110, a51 := Tryd.isAgg110, z51 := Tryd.sizeOf110, v51 := Tryd.zeroValue110,
    t53 := Tryd.underlying112, a53 := Tryd.isAgg112, z53 := Tryd.sizeOf112, v53 := Tryd.zeroValue112,
    t131 := Tryd.underlying38, a131 := Tryd.isAgg38, z131 := Tryd.sizeOf38, v131 := Tryd.zeroValue38,
    t182 := Tryd.underlying102, a182 := Tryd.isAgg102, z182 := Tryd.sizeOf102, v182 := Tryd.zeroValue102,
    t183 := Tryd.underlying103, a183 := Tryd.isAgg103, z183 := Tryd.sizeOf103, v183 := Tryd.zeroValue103,
    t218 := Tryd.underlying113, a218 := Tryd.isAgg113, z218 := Tryd.sizeOf113, v218 := Tryd.zeroValue113,
    t222 := Tryd.underlying117, a222 := Tryd.isAgg117, z222 := Tryd.sizeOf117, v222 := Tryd.zeroValue117,
    t228 := Tryd.underlying121, a228 := Tryd.isAgg121, z228 := Tryd.sizeOf121, v228 := Tryd.zeroValue121,
    t229 := Tryd.underlying122, a229 := Tryd.isAgg122, z229 := Tryd.sizeOf122, v229 := Tryd.zeroValue122 }
def Tryd.laysCompact_ren : Go.Shelf.Ren :=
  {
    f := fun x =>
      match x with
      | 20 => 46
      | n => n,
    t := fun x =>
      match x with
      | 22 => 41
      | 3 => 3
      | 4 => 4
      | 0 => 0
      | n => n,
    g := fun n => n }
theorem Tryd.laysCompact : Lays2.n20 Tryd.prog Tryd.laysCompact_ren :=
  { mixed := Eq.refl true, f20 := Eq.trans Tryd.func46 (congrArg some (Eq.refl (Body2.n20 Tryd.laysCompact_ren))),
    t0 := Tryd.underlying0, a0 := Tryd.isAgg0, z0 := Tryd.sizeOf0, v0 := Tryd.zeroValue0, t3 := Tryd.underlying3,
    a3 := Tryd.isAgg3, z3 := Tryd.sizeOf3, v3 := Tryd.zeroValue3, t4 := Tryd.underlying4, a4 := Tryd.isAgg4, z4 := Tryd.sizeOf4,
    v4 := Tryd.zeroValue4, t22 := Tryd.underlying41, a22 := Tryd.isAgg41, z22 := Tryd.sizeOf41, v22 := Tryd.zeroValue41,
    i3 := Eq.refl (some (some (Go.Value.int Go.IntKind.i64 0), 1, 8)) }
end Go.Proofs
set_option maxRecDepth 100000
namespace Go.Abs
open Go.Proofs
theorem callable_at {P : Program} {f : FuncId} (h : (match P.funcs[f]? with | some fn => fn.body.isSome && !(fn.name == "runtime.NumGoroutine") | none => false) = true) : Callable P f := by
  cases hf : P.funcs[f]? with
  | none => rw [hf] at h; cases h
  | some fn =>
    rw [hf] at h
    simp only [Bool.and_eq_true, Bool.not_eq_true'] at h
    exact ⟨fn, hf, h.1, h.2⟩
theorem s49 {e : TypeId} {τ : Nat} {l : List Int} (hl : l.length < 4611686018427387904) : SpecS Tryd.prog 45 [.k (.own τ)] (oneI e τ l) [τ] (fun r o' => r = .tup [] ∧ o' = oneI e τ (sortI l)) :=
  sort_spec Tryd.laysSort (callable_at (by kernel_rfl)) hl
theorem s50 {e : TypeId} {τ : Nat} {l : List Int} : SpecS Tryd.prog 46 [.k (.own τ)] (oneI e τ l) [] (fun r o' => r = .k (.own τ) ∧ o' = oneI e τ (Lib.compact l)) :=
  compact_spec Tryd.laysCompact (callable_at (by kernel_rfl))
end Go.Abs


set_option maxRecDepth 100000
namespace Go.Proofs
open Go.Shelf
def Tryd.laysContains_ren : Go.Shelf.Ren :=
  {
    f := fun x =>
      match x with
      | 107 => 31
      | 108 => 44
      | n => n,
    t := fun x =>
      match x with
      | 28 => 41
      | 3 => 3
      | 4 => 4
      | 0 => 0
      | n => n,
    g := fun n => n }
theorem Tryd.laysContains : Lays.n107 Tryd.prog Tryd.laysContains_ren :=
  { mixed := Eq.refl true, f107 := Eq.trans Tryd.func31 (congrArg some (Eq.refl (Body.n107 Tryd.laysContains_ren))),
    f108 := Eq.trans Tryd.func44 (congrArg some (Eq.refl (Body.n108 Tryd.laysContains_ren))), t0 := Tryd.underlying0,
    a0 := Tryd.isAgg0, z0 := Tryd.sizeOf0, v0 := Tryd.zeroValue0, t3 := Tryd.underlying3, a3 := Tryd.isAgg3,
    z3 := Tryd.sizeOf3, v3 := Tryd.zeroValue3, t4 := Tryd.underlying4, a4 := Tryd.isAgg4, z4 := Tryd.sizeOf4,
    v4 := Tryd.zeroValue4, t28 := Tryd.underlying41, a28 := Tryd.isAgg41, z28 := Tryd.sizeOf41, v28 := Tryd.zeroValue41 }
end Go.Proofs
set_option maxHeartbeats 4000000
namespace Go.Abs
open Go.Proofs
def numQ : List Int := [6, 7, 10, 12, 13, 14, 15, 16, 20, 21]
theorem prep_gl {w : World} {Z : Bk → Prop} {g : Nat} {l : List Int} (hg : globRow g = some l) {v : Value} (h : PRep w Z (.gl g) v) : v = .slice (some ⟨g, 0, none⟩) l.length l.length := by
  cases h with
  | gl _ l' h' => rw [hg] at h'; cases h'; rfl
theorem o31 (q : Int) : Spec Tryd.prog 31 [.k (.c (.gl 0)), .int .i64 q] (fun r => r = .bool (numQ.contains q)) := by
  refine ⟨callable_at (by kernel_rfl), fun w Z vs hG hz ha => ?_⟩
  obtain ⟨l⟩ := vs
  match l, ha with
  | [], ha => exact absurd ha.1 (by simp)
  | [_], ha => exact absurd ha.1 (by simp)
  | _ :: _ :: _ :: _, ha => exact absurd ha.1 (by simp)
  | [v1, v2], ha =>
    have h1 := (ha.2 0 _ v1 rfl rfl).2.2
    have h2 := (ha.2 1 _ v2 rfl rfl).2.2
    have e1 := prep_gl (l := numQ) rfl h1
    have e2 : v2 = .int .i64 q := prep_int h2
    subst e1 e2
    obtain ⟨g1, g2⟩ := hG 0 numQ rfl
    refine (Any.slices_Contains_int Tryd.laysContains 0 0 10 10 numQ q w (by decide) (by omega) (fun j hj => by rw [Nat.zero_add]; exact g2 j hj)).mono ?_
    rintro e w' ⟨rfl, rfl⟩
    have hb : (numQ.take 10).contains q = numQ.contains q := rfl
    rw [hb]
    refine ⟨_, .bool (numQ.contains q), rfl, rfl, fun _ => rfl, fun n => ?_⟩
    refine ⟨fun _ => none, Kept.refl w', hG, fun τ b h => absurd (by simp [tabOf, V.reg] : (tabOf n [] : Nat → Option O) τ = none) h, fun τ τ' b h => absurd (by simp [tabOf] : (tabOf n [] : Nat → Option O) τ = none) h, fun τ ob h => by simp [tabOf, V.reg] at h, fun s => ?_⟩
    by_cases hs : s = 0
    · subst hs
      exact ⟨rfl, .bool _⟩
    · simp only [hs, if_false]; trivial
theorem num_q (q : Int) : numQ.contains q = decide (qtype q = 0) := by
  unfold qtype
  by_cases h : q = 6 ∨ q = 7 ∨ q = 10 ∨ q = 12 ∨ q = 13 ∨ q = 14 ∨ q = 15 ∨ q = 16 ∨ q = 20 ∨ q = 21
  · rw [if_pos h]; simp [numQ, h]
  · rw [if_neg h]; simp [numQ, h]
theorem o13 (q : Int) : Spec Tryd.prog 13 [.int .i64 q] (fun r => r = typeQ q) := by
  refine Spec.of_awlS hf13 okf13 (by simp) fun S hS => ?_
  by_cases h1 : q < 0
  · simp only [h1, Qs, q_putDL_eq_1, q_lookO_eq_1, q_vPick_eq_2, q_V_nrm_eq_5, if_true, List.append_nil, List.nodup_nil, Nat.reduceBEq, q_guardP_eq_2, uf13, uf13r3, uf13b4, uf13b10, uf13r11, uf13b12, uf13b13, uf13b14, uf13r15, uf13b16]
    exact fin hS (by rw [typeQ, if_pos (.inl h1)])
  by_cases h2 : q ≥ 22
  · simp only [h1, h2, Qs, q_lookO_eq_1, q_cutInt_eq_11, if_true, if_false, List.append_nil, List.nodup_nil, Nat.reduceBEq, q_guardP_eq_2, uf13, uf13r3, uf13b4, uf13b10, uf13r11, uf13b12, uf13b13, uf13b14, uf13r15, uf13b16]
    exact fin hS (by rw [typeQ, if_pos (.inr h2)])
  rw [typeQ, if_neg (by omega)] at hS
  simp only [h1, h2, Qs, q_cutInt_eq_11, if_true, if_false, Nat.reduceBEq, q_guardP_eq_2, uf13, uf13r8, uf13b9, uf13b10, uf13r11, uf13b12, uf13b13, uf13b14, uf13r15, uf13b16]
  refine call_s (o31 q) ?_ (ha := by rfl)
  rw [num_q]
  by_cases h : qtype q = 0
  · simp only [h, Qs, q_lookO_eq_1, List.append_nil, List.nodup_nil, Nat.reduceBEq, uf13r5, uf13b6, uf13b7]
    exact fin hS (by rw [h])
  · have h' : qtype q = 1 := by unfold qtype at h ⊢; split <;> simp_all
    simp only [h, Qs, q_lookO_eq_1, q_AE_inBlockL_eq_1, List.append_nil, List.nodup_nil, Nat.reduceBEq, uf13r1, uf13b2, uf13b7]
    exact fin hS (by rw [h'])
theorem o43 (n a b : Int) : Spec Tryd.prog 43 [.int .i64 n, .int .i64 a, .int .i64 b] (fun r => r = .bool (decide (a ≤ n ∧ n ≤ b))) := by
  refine Spec.of_awlS hf43 okf43 (by simp) fun S hS => ?_
  by_cases h1 : a ≤ n
  · by_cases h2 : n ≤ b
    · simp only [h1, h2, Qs, q_lookO_eq_1, q_cutInt_eq_9, if_true, List.nodup_nil, Nat.reduceAdd, Nat.reduceBEq, uf43, uf43r1, uf43b2, uf43r3, uf43b4]
      exact fin hS (by simp [h1, h2])
    · simp only [h1, h2, Qs, q_lookO_eq_1, q_cutInt_eq_9, if_true, List.nodup_nil, Nat.reduceAdd, Nat.reduceBEq, uf43, uf43r1, uf43b2, uf43r3, uf43b4]
      exact fin hS (by simp [h1, h2])
  · simp only [h1, Qs, q_putDL_eq_1, q_lookO_eq_1, q_cutInt_eq_9, q_vPick_eq_3, q_V_nrm_eq_5, if_true, List.nodup_nil, Nat.reduceAdd, Nat.reduceBEq, uf43, uf43r1, uf43b2, uf43r3, uf43b4]
    exact fin hS (by simp [h1])
theorem o30 (q : Int) : Spec Tryd.prog 30 [.int .i64 q] (fun r => r = .bool (decide (0 ≤ q ∧ q < 22))) := by
  refine Spec.of_awlS hf30 okf30 (by simp) fun S hS => ?_
  by_cases h1 : q ≥ 0
  · have h1' : 0 ≤ q := h1
    by_cases h2 : q < 22
    · simp only [h1, h2, Qs, q_lookO_eq_1, q_cutInt_eq_11, if_true, List.nodup_nil, Nat.reduceBEq, uf30, uf30r1, uf30b2, uf30r3, uf30b4]
      exact fin hS (by simp [h1', h2])
    · simp only [h1, h2, Qs, q_lookO_eq_1, q_cutInt_eq_11, if_true, List.nodup_nil, Nat.reduceBEq, uf30, uf30r1, uf30b2, uf30r3, uf30b4]
      exact fin hS (by simp [h2])
  · have h1' : ¬ 0 ≤ q := h1
    simp only [h1, Qs, q_putDL_eq_1, q_lookO_eq_1, q_cutInt_eq_11, q_vPick_eq_3, q_V_nrm_eq_5, if_true, List.nodup_nil, Nat.reduceBEq, uf30, uf30r1, uf30b2, uf30r3, uf30b4]
    exact fin hS (by simp [h1'])
theorem o29 (q : Int) : Spec Tryd.prog 29 [.int .i64 q] (fun r => r = .bool (decide (qtype q = 1 ∧ 0 ≤ q ∧ q ≤ 21))) := by
  refine Spec.of_awlS hf29 okf29 (by simp) fun S hS => ?_
  simp only [Qs, q_lookO_eq_1, q_AE_inBlockL_eq_1, if_true, List.nodup_nil, Nat.reduceBEq, condB_beq, uf29, uf29r1, uf29b2, uf29r3, uf29b4, uf29b5, uf29r6, uf29b7, uf29r8, uf29b9, uf29b10, uf29r11, uf29b12, uf29b13, uf29r14, uf29b15, uf29b16, uf29r17, uf29b18, uf29b19, uf29r20, uf29b21, uf29b22, uf29r23, uf29b24, uf29b25, uf29r26, uf29b27, uf29b28, uf29r29, uf29b30, uf29b31, uf29r32, uf29b33, uf29b34, uf29b35, uf29r36, uf29b37, uf29b38, uf29r39, uf29b40]
  repeat' (first | with_reducible refine And.intro ?_ ?_ | with_reducible intro _)
  all_goals try (refine fin hS ?_; simp_all [qtype]; done)
  refine call_s (o43 q 0 21) ?_
  simp only [Qs, q_lookO_eq_1, List.nodup_nil]
  refine fin hS ?_
  simp_all [qtype]
theorem o14 (q : Int) : Spec Tryd.prog 14 [.int .i64 q] (fun r => r = typeQ q) := by
  refine Spec.of_awlS hf14 okf14 (by simp) fun S hS => ?_
  simp only [Qs, Nat.reduceBEq, uf14, uf14r12, uf14b13, uf14b14, uf14r15, uf14b16]
  refine call_s (o30 q) ?_
  by_cases h : 0 ≤ q ∧ q < 22
  · rw [typeQ, if_neg (by omega)] at hS
    simp only [h, Qs, q_exL_eq_15, q_vUn_eq_1, q_unV_eq_2, q_mapC_eq_1, Nat.reduceBEq, uf14r6, uf14b7, uf14b8, uf14b11]
    refine call_s (o29 q) ?_
    by_cases hq : qtype q = 1
    · have : (qtype q = 1 ∧ 0 ≤ q ∧ q ≤ 21) := ⟨hq, h.1, by omega⟩
      simp only [this, Qs, q_lookO_eq_1, List.append_nil, List.nodup_nil, Nat.reduceBEq, uf14r3, uf14b4, uf14b5]
      exact fin hS (by rw [hq])
    · have h' : qtype q = 0 := by unfold qtype at hq ⊢; split <;> simp_all
      have hn : ¬ (qtype q = 1 ∧ 0 ≤ q ∧ q ≤ 21) := fun x => hq x.1
      simp only [hn, Qs, q_lookO_eq_1, List.append_nil, List.nodup_nil, Nat.reduceBEq, uf14r1, uf14b2, uf14b5]
      exact fin hS (by rw [h'])
  · rw [typeQ, if_pos (by omega)] at hS
    simp only [h, Qs, q_exL_eq_15, q_lookO_eq_1, q_vUn_eq_1, q_unV_eq_2, q_mapC_eq_1, List.append_nil, List.nodup_nil, Nat.reduceBEq, uf14r9, uf14b10, uf14b11]
    exact hS
end Go.Abs


set_option maxRecDepth 100000
set_option maxHeartbeats 4000000
namespace Go.Abs
open Go.Proofs
theorem of_orF {p : Prop} (h : p ∨ False) : p := h.elim id False.elim
def capI (q : Int) : C := .ro [.int .i64 q] 0
theorem upto_succ (i : Nat) : upto (i + 1) = upto i ++ [(i : Int)] := by simp [upto, List.range_succ]
theorem upto_filter (p : Int → Bool) (i : Nat) : (upto (i + 1)).filter p = if p i = true then (upto i).filter p ++ [(i : Int)] else (upto i).filter p := by
  rw [upto_succ, List.filter_append]
  by_cases h : p i = true <;> simp [h]
theorem filter_le (p : Int → Bool) (i : Nat) : ((upto i).filter p).length ≤ i := Nat.le_trans (List.length_filter_le _ _) (by simp [upto])
theorem s36 (t : Term) : Spec Tryd.prog 35 [.agg (encT t)] (fun r => r = .k (.newl 3 1 none (ints (varsT t)))) := by
  refine Spec.of_awlS hf35 okf35 (by simp) fun S hS => ?_
  simp only [Qs, q_exL_eq_2, q_exL_eq_7, q_boxK_eq_1, q_vLits_eq_1, q_bsK_eq_1, q_K_noRef_eq_2, q_O_noRef_eq_2, q_List_foldl_nil, q_List_replicate_zero, false_implies, implies_true, bne_iff_ne, ne_eq, Nat.reduceEqDiff, Nat.reduceBEq, List.length_map, encT_len, List.not_mem_nil, implies_true, r_all_noRef, uf35, uf35r21, uf35b22, uf35r23, uf35b24, uf35r25, uf35b26]
  refine call_s (s32 t) ?_
  simp only [pairV, Qs, Nat.reduceBEq, uf35b17, uf35r18, uf35b19, uf35b20]
  rw [uf35l16]
  refine awl_loop (fun i : Nat => [(1, .k (.ptr 1 0)), (3, .k (.own 8)), (5, .int .i64 (checkT t).2), (6, .int .i64 i)])
    (fun i => [(1, .var 50 ((encT t).map .c)), (8, .arr 3 1 (some false) (ints ((upto i).filter (used t))))]) (fun i => i ≤ 20 ∧ ((checkT t).2 ≠ 0 → i = 0)) (fun i => 20 - i) 0 rfl rfl ⟨Nat.zero_le _, fun _ => rfl⟩ ?_
  rintro i ⟨hi, h0⟩
  by_cases he : (checkT t).2 = 0
  · by_cases hlt : i < 20
    · have c1 : (i : Int) < 20 := by omega
      have c4 : IntKind.i64.wrap ((i : Int) + 1) = (i : Int) + 1 := wrap_in (by omega) (by omega)
      simp only [he, c1, c4, Qs, and_true, if_true, false_implies, ne_eq, BEq.rfl, Nat.reduceBEq, not_true_eq_false, List.length_map, encT_len, uf35r3, uf35r8, uf35b9, uf35b10, uf35b11, uf35b12, uf35r13, uf35b14, uf35b15]
      refine call_s (s63 t i) ?_
      have hu := upto_filter (used t) i
      have hle := filter_le (used t) i
      cases h : used t i
      · rw [if_neg (by simp [h])] at hu
        simp only [h, c4, Qs, q_AE_inBlockL_eq_1, q_cutInt_eq_1, if_true, Nat.reduceBEq, uf35r4, uf35b5, uf35r6, uf35b7]
        exact Next.intro (i + 1) rfl (by rw [hu]; rfl) (by omega) (by omega)
      · rw [if_pos h] at hu
        simp only [h, c4, Qs, q_exL_eq_7, q_exL_eq_33, q_AE_inBlockL_eq_1, q_cutInt_eq_1, q_nlApp_eq_2, q_vRow_eq_1, q_vLits_eq_1, q_vLits_eq_2, q_bsK_eq_1, q_srcO_eq_1, q_srcV_eq_2, q_appK_eq_1, q_appendK_eq_1, q_delO_eq_1, q_delO_eq_2, q_K_noRef_eq_2, q_O_noRef_eq_2, q_V_scrub_eq_1, q_V_scrub_eq_3, q_K_scrub_eq_1, q_K_scrub_eq_2, q_K_scrub_eq_5, q_O_scrub_eq_1, q_O_scrub_eq_2, q_List_foldl_cons, q_List_foldl_nil, q_List_replicate_succ, q_List_replicate_zero, q_List_set_cons_zero, if_true, if_false, forall_eq, or_false, bne_iff_ne, ne_eq, List.mem_cons, Nat.reduceEqDiff, Nat.reduceLeDiff, Nat.reduceLT, Nat.reduceBEq, ints_len, List.not_mem_nil, r_all_noRef, r_map_scrub, uf35r4, uf35b5, uf35r6, uf35b7]
        refine ⟨by omega, by omega, Next.intro (i + 1) rfl (by rw [hu, ints_snoc]; rfl) (by omega) (by omega)⟩
    · have c1 : ¬ (i : Int) < 20 := by omega
      obtain rfl : i = 20 := by omega
      simp only [c1, Qs, q_putDL_eq_1, q_awl_eq_9, q_AE_thenL_eq_2, q_AE_inBlockL_eq_2, q_vPick_eq_3, q_isArrO_eq_1, q_V_nrm_eq_5, q_K_owns_eq_1, q_K_toNew_eq_2, if_true, ne_eq, List.nodup_nil, List.nodup_cons, Nat.reduceBEq, normRows_ints, encT_norm, Int.reduceLT, Int.cast_ofNat_Int, List.not_mem_nil, r_map_nrm, uf35r1, uf35b2, uf35b12, uf35r13, uf35b14, uf35b15]
      rw [varsT, if_neg (by simp [he])] at hS
      exact hS
  · obtain rfl := h0 he
    simp only [he, Qs, q_awl_eq_9, q_AE_thenL_eq_2, q_AE_inBlockL_eq_2, q_isArrO_eq_1, q_K_owns_eq_1, q_K_toNew_eq_2, if_true, false_implies, forall_const, ne_eq, List.nodup_nil, List.nodup_cons, Nat.reduceBEq, condB_beq, normRows_ints, encT_norm, List.length_map, encT_len, Int.reduceLT, Int.cast_ofNat_Int, List.not_mem_nil, r_map_nrm, uf35r1, uf35b2, uf35r3, uf35r8, uf35b9, uf35b10, uf35b11, uf35b12, uf35r13, uf35b14, uf35b15]
    rw [varsT, if_pos he] at hS
    exact hS
end Go.Abs


set_option maxRecDepth 100000
set_option maxHeartbeats 4000000
namespace Go.Abs
open Go.Proofs
theorem o38 (r : Rule) (q : Int) : Spec Tryd.prog 38 [.agg (encRule r), .k (.c (capI q))] (fun x => x = .bool (decide (r.ask = q))) := by
  refine Spec.of_awlS hf38 okf38 (by simp) fun S hS => ?_
  simp only [capI, Qs, q_vLoad_eq_4, q_boxK_eq_1, q_C_norm_eq_2, if_true, if_false, List.nodup_nil, Nat.reduceAdd, Nat.reduceLeDiff, Nat.reduceBEq, encRule_norm, List.length_map, encRule_len, f_rule0, r_map_nrm, uf38, uf38r1, uf38b2, uf38r3, uf38b4]
  refine fin hS ?_
  by_cases h : r.ask = q <;> simp [h]
theorem o37 (l : List Rule) (q : Int) : Spec Tryd.prog 37 [lst 4 (l.map encRule), .k (.c (.fn 38 [capI q]))] (fun r => r = .int .i64 (rix l q 0)) := by
  refine Spec.of_len hf37 fun hlen => ?_
  have hl := len_lst (sz := 4) (rows := l.map encRule) List.mem_cons_self hlen
  rw [List.length_map] at hl
  clear hlen
  refine Spec.of_awlS hf37 okf37 (by simp) fun S hS => ?_
  simp only [Qs, q_lookO_eq_1, Nat.reduceAdd, Nat.reduceBEq, List.length_map, uf37, uf37b18, uf37r19, uf37b20, uf37b21, uf37r22, uf37b23]
  rw [uf37l17]
  refine awl_loop (fun i : Nat => [(0, lst 4 (l.map encRule)), (1, .k (.c (.fn 38 [capI q]))), (7, .int .i64 l.length), (8, .int .i64 i)]) (fun _ => [])
    (fun i => i ≤ l.length ∧ rix (l.drop i) q i = rix l q 0) (fun i => l.length - i) 0 rfl rfl ⟨Nat.zero_le _, rfl⟩ ?_
  rintro i ⟨hi, hj⟩
  by_cases hlt : i < l.length
  · have c1 : (i : Int) < l.length := by omega
    have c4 : IntKind.i64.wrap ((i : Int) + 1) = (i : Int) + 1 := wrap_in (by omega) (by omega)
    rw [rix_drop hlt] at hj
    simp only [c1, c4, map_at hlt, Qs, q_exL_eq_29, q_lookO_eq_1, q_partV_eq_1, if_true, Nat.reduceBEq, Int.toNat_natCast, Int.natCast_nonneg, r_vIaddr_lst, List.length_map, uf37r3, uf37r7, uf37b8, uf37r9, uf37b10, uf37b11, uf37b12, uf37b13, uf37b14, uf37r15, uf37b16]
    refine call_c (o38 l[i] q) ?_ (ha := by simp [lendL, V.norm, capI])
    by_cases h : l[i].ask = q
    · rw [if_pos h] at hj
      simp only [h, Qs, q_lookO_eq_1, q_K_nrm_eq_2, q_C_norm_eq_3, List.nodup_nil, Nat.reduceBEq, normRows_R, encRule_norm, uf37r4, uf37b5, uf37b6]
      exact fin hS (by rw [← hj])
    · rw [if_neg h] at hj
      simp only [h, c4, Qs, q_AE_inBlockL_eq_1, q_cutInt_eq_1, if_true, Nat.reduceBEq, uf37b6]
      exact Next.intro (i + 1) rfl rfl ⟨by omega, hj⟩ (by omega)
  · have c1 : ¬ (i : Int) < l.length := by omega
    simp only [c1, Qs, q_lookO_eq_1, q_awl_eq_9, q_AE_thenL_eq_2, q_AE_inBlockL_eq_2, q_C_norm_eq_3, if_true, Int.reduceNeg, List.nodup_nil, Nat.reduceBEq, normRows_R, uf37r1, uf37b2, uf37b13, uf37b14, uf37r15, uf37b16]
    rw [List.drop_eq_nil_of_le (by omega), rix] at hj
    exact fin hS (by rw [← hj])
theorem o21 (o : Order) (q : Int) : Spec Tryd.prog 21 [.agg (encOrder o), .int .i64 q] (fun r => r = .int .i64 (rix o.rules q 0)) := by
  refine Spec.of_len hf21 fun hlen => ?_
  have hl := (len_rules (o := o) List.mem_cons_self hlen).2
  clear hlen
  refine Spec.of_awlS hf21 okf21 (by simp) fun S hS => ?_
  simp only [Qs, q_boxK_eq_1, Nat.reduceAdd, Nat.reduceBEq, uf21, uf21b16, uf21r17, uf21b18, uf21b19, uf21r20, uf21b21]
  rw [uf21l15]
  refine awl_loop (fun i : Nat => [(1, .int .i64 q), (2, .k (.ptr 2 0)), (5, .int .i64 i)]) (fun _ => [(2, .var 25 ((encOrder o).map .c))])
    (fun i => i ≤ o.rules.length ∧ rix (o.rules.drop i) q i = rix o.rules q 0) (fun i => o.rules.length - i) 0 rfl rfl ⟨Nat.zero_le _, rfl⟩ ?_
  rintro i ⟨hi, hj⟩
  by_cases hlt : i < o.rules.length
  · have c1 : (i : Int) < o.rules.length := by omega
    have c4 : IntKind.i64.wrap ((i : Int) + 1) = (i : Int) + 1 := wrap_in (by omega) (by omega)
    rw [rix_drop hlt] at hj
    simp only [c1, c4, map_at hlt, Qs, q_AE_inBlockL_eq_1, q_cutInt_eq_1, q_vFaddr_eq_3, q_partV_eq_2, q_K_nrm_eq_2, if_true, List.nodup_nil, Nat.reduceAdd, Nat.reduceLeDiff, Nat.reduceBEq, Int.toNat_natCast, Int.natCast_nonneg, condB_beq, r_vIaddr_lst, normRows_R, encOrder_norm, List.length_map, encOrder_len, g_rule0, f_or3, r_map_nrm, uf21r3, uf21r4, uf21b5, uf21b6, uf21r7, uf21b8, uf21b9, uf21b10, uf21b11, uf21r12, uf21b13, uf21b14]
    refine ⟨fun h => ?_, fun h => ?_⟩
    · rw [if_pos h] at hj
      exact fin hS (by rw [← hj])
    · rw [if_neg h] at hj
      exact Next.intro (i + 1) rfl rfl ⟨by omega, hj⟩ (by omega)
  · have c1 : ¬ (i : Int) < o.rules.length := by omega
    simp only [c1, Qs, q_awl_eq_9, q_AE_thenL_eq_2, q_AE_inBlockL_eq_2, if_true, Int.reduceNeg, List.nodup_nil, Nat.reduceAdd, Nat.reduceBEq, normRows_R, encOrder_norm, List.length_map, encOrder_len, f_or3, r_map_nrm, uf21r1, uf21b2, uf21b11, uf21r12, uf21b13, uf21b14]
    rw [List.drop_eq_nil_of_le (by omega), rix] at hj
    exact fin hS (by rw [← hj])
theorem rix_at : ∀ (l : List Rule) (q i : Int), 0 ≤ i → 0 ≤ rix l q i → ∃ k, ∃ h : k < l.length, rix l q i = i + k ∧ l[k].ask = q ∧ ∀ j, ∀ h2 : j < k, l[j].ask ≠ q
  | [], q, i, hi, h => by simp [rix] at h
  | r :: l, q, i, hi, h => by
    rw [rix] at h ⊢
    by_cases hr : r.ask = q
    · rw [if_pos hr]
      exact ⟨0, by simp, by simp, hr, fun j h2 => absurd h2 (by omega)⟩
    · rw [if_neg hr] at h ⊢
      obtain ⟨k, hk, h1, h2, h3⟩ := rix_at l q (i + 1) (by omega) h
      refine ⟨k + 1, by simpa using hk, by rw [h1]; push_cast; omega, by simpa using h2, fun j hj => ?_⟩
      cases j with
      | zero => exact hr
      | succ j => simpa using h3 j (by omega)
def ruleT (o : Order) (q : Int) : Term := (o.rules.getD (rix o.rules q 0).toNat default).term
def usable (o : Order) (q : Int) : Int :=
  if q < 0 ∨ q ≥ 22 then 1 else if rix o.rules q 0 < 0 then 4 else if (checkT (ruleT o q)).2 ≠ 0 ∨ (checkT (ruleT o q)).1 ≠ qtype q then 11 else 0
def findT (o : Order) (q : Int) : Term := if usable o q = 0 then ruleT o q else .mk 0 0 []
def findV (o : Order) (q : Int) : V := .tup [.agg (encT (findT o q)), .int .i64 (usable o q)]
theorem ruleT_at {o : Order} {q : Int} {k : Nat} (hk : k < o.rules.length) (h : rix o.rules q 0 = k) : ruleT o q = o.rules[k].term := by
  rw [ruleT, h]
  simp [hk]
theorem typeQ_ok {q : Int} (h : ¬ (q < 0 ∨ q ≥ 22)) : typeQ q = .tup [.int .i64 (qtype q), .bool true] := by rw [typeQ, if_neg h]
theorem o27 (o : Order) (q : Int) : Spec Tryd.prog 27 [.agg (encOrder o), .int .i64 q] (fun r => r = .int .i64 (usable o q)) := by
  refine Spec.of_awlS hf27 okf27 (by simp) fun S hS => ?_
  simp only [Qs, q_boxK_eq_1, Nat.reduceAdd, Nat.reduceBEq, uf27, uf27r24, uf27b25, uf27b26, uf27r27, uf27b28]
  refine call_s (o30 q) ?_
  by_cases hq : q < 0 ∨ q ≥ 22
  · have hn : ¬ (0 ≤ q ∧ q < 22) := by omega
    rw [usable, if_pos hq] at hS
    simp only [hn, Qs, q_exL_eq_15, q_vUn_eq_1, q_unV_eq_2, q_mapC_eq_1, List.nodup_nil, encOrder_norm, r_map_nrm, uf27r21, uf27b22, uf27b23]
    exact hS
  have hy : (0 ≤ q ∧ q < 22) := by omega
  rw [usable, if_neg hq] at hS
  simp only [hy, Qs, q_exL_eq_15, q_vUn_eq_1, q_unV_eq_2, q_mapC_eq_1, Nat.reduceBEq, List.length_map, encOrder_len, uf27r19, uf27b20, uf27b23]
  refine call_s (o21 o q) ?_
  by_cases hr : rix o.rules q 0 < 0
  · rw [if_pos hr] at hS
    simp only [hr, Qs, if_true, List.nodup_nil, encOrder_norm, r_map_nrm, uf27r13, uf27b14, uf27b15, uf27r16, uf27b17, uf27b18]
    exact hS
  rw [if_neg hr] at hS
  obtain ⟨k, hk, h1, _, _⟩ := rix_at o.rules q 0 (by omega) (by omega)
  rw [Int.zero_add] at h1
  rw [ruleT_at hk h1] at hS
  rw [h1] at hr
  have c1 : (0 : Int) ≤ k := by omega
  have c2 : (k : Int) < o.rules.length := by omega
  simp only [h1, hr, c1, c2, map_at hk, List.length_map, Qs, q_vFaddr_eq_3, q_partV_eq_1, if_true, if_false, Nat.reduceAdd, Nat.reduceEqDiff, Nat.reduceBEq, Nat.succ_ne_self, Int.toNat_natCast, r_vIaddr_lst, List.length_map, encOrder_len, g_rule1, f_or3, uf27r11, uf27b12, uf27b15, uf27r16, uf27b17, uf27b18]
  refine call_s (s32 o.rules[k].term) ?_
  simp only [pairV, Qs, Nat.reduceBEq, uf27r9, uf27b10]
  have c14 := o14 q
  rw [typeQ_ok hq] at c14
  refine call_s c14 ?_
  by_cases he : (checkT o.rules[k].term).2 = 0
  · by_cases ht : (checkT o.rules[k].term).1 = qtype q
    · rw [if_neg (by simp [he, ht])] at hS
      simp only [he, ht, Qs, q_cutInt_eq_7, q_V_nrm_eq_4, q_K_nrm_eq_2, q_V_nrmL_eq_1, q_V_nrmL_eq_2, if_true, if_false, false_implies, forall_const, List.nodup_nil, Nat.reduceBEq, not_true_eq_false, q_guardP_eq_2, condB_bne, normRows_R, encT_norm, encOrder_norm, Int.reduceBNe, r_map_nrm, uf27r1, uf27b2, uf27r3, uf27b4, uf27b5, uf27r6, uf27b7, uf27b8]
      exact hS
    · rw [if_pos (.inr ht)] at hS
      simp only [he, ht, Qs, q_cutInt_eq_7, q_V_nrm_eq_4, q_K_nrm_eq_2, q_V_nrmL_eq_1, q_V_nrmL_eq_2, and_true, if_true, if_false, false_implies, forall_const, List.nodup_nil, Nat.reduceBEq, q_guardP_eq_2, condB_bne, normRows_R, encT_norm, encOrder_norm, Int.reduceBNe, r_map_nrm, uf27r1, uf27b2, uf27r3, uf27b4, uf27b5, uf27r6, uf27b7, uf27b8]
      exact hS
  · rw [if_pos (.inl he)] at hS
    simp only [he, Qs, q_putDL_eq_1, q_cutInt_eq_7, q_vPick_eq_2, q_V_nrm_eq_4, q_V_nrm_eq_5, q_K_nrm_eq_2, q_V_nrmL_eq_1, q_V_nrmL_eq_2, and_true, if_true, if_false, false_implies, forall_const, List.nodup_nil, Nat.reduceBEq, q_guardP_eq_2, condB_bne, normRows_R, encT_norm, encOrder_norm, r_map_nrm, uf27r1, uf27b2, uf27r3, uf27b4, uf27b5, uf27r6, uf27b7, uf27b8]
    exact hS
theorem findV_no {o : Order} {q e : Int} (h : usable o q = e) (he : e ≠ 0) : findV o q = .tup [.agg [.int .i64 0, .int .i64 0, .list 0 none []], .int .i64 e] := by
  rw [findV, findT, h, if_neg he]; rfl
theorem findV_yes {o : Order} {q : Int} {k : Nat} (hk : k < o.rules.length) (h1 : rix o.rules q 0 = k) (h : usable o q = 0) : findV o q = .tup [.agg (encT o.rules[k].term), .int .i64 0] := by
  rw [findV, findT, h, if_pos rfl, ruleT_at hk h1]
theorem o25 (o : Order) (q : Int) : Spec Tryd.prog 25 [.agg (encOrder o), .int .i64 q] (fun r => r = findV o q) := by
  refine Spec.of_awlS hf25 okf25 (by simp) fun S hS => ?_
  simp only [Qs, q_boxK_eq_1, q_boxK_eq_2, if_false, bne_iff_ne, ne_eq, Nat.reduceAdd, Nat.reduceEqDiff, Nat.reduceBEq, r_all_noRef, uf25, uf25r27, uf25b28, uf25r29, uf25b30]
  have c13 := o13 q
  by_cases hq : q < 0 ∨ q ≥ 22
  · rw [typeQ, if_pos hq] at c13
    rw [findV_no (e := 1) (by rw [usable, if_pos hq]) (by decide)] at hS
    refine call_s c13 ?_
    simp only [Qs, q_exL_eq_15, q_vUn_eq_1, q_unV_eq_2, q_mapC_eq_1, q_V_nrm_eq_4, q_V_nrmL_eq_1, q_V_nrmL_eq_2, q_C_norm_eq_1, q_C_normRows_eq_1, q_List_isEmpty_nil, if_true, List.append_nil, List.nodup_nil, Nat.reduceAdd, Nat.reduceLT, Nat.reduceBEq, encOrder_norm, r_map_nrm, uf25r21, uf25b22, uf25b23, uf25r24, uf25b25, uf25b26]
    exact hS
  rw [typeQ_ok hq] at c13
  refine call_s c13 ?_
  simp only [Qs, q_exL_eq_15, q_exL_eq_17, q_vUn_eq_1, q_unV_eq_2, q_mapC_eq_1, Nat.reduceAdd, Nat.reduceBEq, List.length_map, encOrder_len, f_or3, z_capP, z_caps_nil, z_caps_ptr, z_fnV, z_fnP2, z_pureCaps_tok, uf25r19, uf25b20, uf25b23, uf25r24, uf25b25, uf25b26]
  refine call_f 3 (by simp [look, lookT]) (by simp [V.hard, V.toks, Abs.K.toks, Cap.toks]) (by simp [lookO, plainO, Abs.K.toks]) ?_
  simp only [Qs, q_delO_eq_1, q_delO_eq_2, if_true, if_false, or_false, Nat.reduceEqDiff, Nat.reduceBEq, Nat.succ_ne_self, q_roK_1, q_fnkF_1, q_capR_1, z_V_k, z_V_agg, z_V_tup, z_K_c, z_K_ptr, z_K_fnk, z_Cap_tok, z_O_var, z_frzT, z_frzO, z_pureCaps_nil, z_pureCaps_ro, r_map_frz]
  refine of_orF (call_s (o37 o.rules q) ?_ (ha := by simp [lendL, V.norm, capI, lst]))
  by_cases hr : rix o.rules q 0 < 0
  · rw [findV_no (e := 4) (by rw [usable, if_neg hq, if_pos hr]) (by decide)] at hS
    simp only [hr, Qs, q_V_nrm_eq_6, q_C_norm_eq_1, q_C_norm_eq_2, q_C_norm_eq_3, q_C_normRows_eq_1, q_List_isEmpty_nil, if_true, List.append_nil, List.nodup_nil, Nat.reduceAdd, Nat.reduceLT, Nat.reduceBEq, normRows_R, encOrder_norm, r_map_nrm, uf25r13, uf25b14, uf25b15, uf25r16, uf25b17, uf25b18]
    exact hS
  obtain ⟨k, hk, h1, _, _⟩ := rix_at o.rules q 0 (by omega) (by omega)
  rw [Int.zero_add] at h1
  have hu : usable o q = if (checkT o.rules[k].term).2 ≠ 0 ∨ (checkT o.rules[k].term).1 ≠ qtype q then 11 else 0 := by rw [usable, if_neg hq, if_neg hr, ruleT_at hk h1]
  rw [h1] at hr
  have c1 : (0 : Int) ≤ k := by omega
  have c2 : (k : Int) < o.rules.length := by omega
  simp only [h1, hr, c1, c2, map_at hk, List.length_map, Qs, q_vFaddr_eq_3, q_partV_eq_1, q_V_noRef_eq_6, q_K_noRef_eq_5, if_true, if_false, bne_iff_ne, ne_eq, List.append_nil, Nat.reduceAdd, Nat.reduceEqDiff, Nat.reduceBEq, Nat.succ_ne_self, Int.toNat_natCast, r_vIaddr_lst, List.length_map, encT_len, encOrder_len, g_rule1, f_or3, r_all_noRef, uf25r8, uf25b9, uf25b10, uf25r11, uf25b12, uf25b15, uf25r16, uf25b17, uf25b18]
  refine call_s (s31 o.rules[k].term) ?_
  simp only [pairV, Qs, q_putDL_eq_1, q_cutInt_eq_7, q_vPick_eq_2, q_V_nrm_eq_4, q_V_nrm_eq_5, q_V_nrm_eq_6, q_K_nrm_eq_2, q_V_nrmL_eq_1, q_V_nrmL_eq_2, q_C_norm_eq_1, q_C_norm_eq_2, q_C_norm_eq_3, q_C_normRows_eq_1, q_List_isEmpty_nil, if_true, if_false, List.append_nil, List.nodup_nil, Nat.reduceAdd, Nat.reduceLT, Nat.reduceBEq, q_guardP_eq_2, condB_bne, normRows_R, encT_norm, encOrder_norm, List.length_map, encT_len, r_map_nrm, uf25r1, uf25b2, uf25r3, uf25b4, uf25b5, uf25r6, uf25b7]
  by_cases he : (checkT o.rules[k].term).2 = 0
  · by_cases ht : (checkT o.rules[k].term).1 = qtype q
    · rw [if_neg (by simp [he, ht])] at hu
      rw [findV_yes hk h1 hu] at hS
      simp only [he, ht, Qs, false_implies, forall_const, not_true_eq_false]
      exact hS
    · rw [if_pos (.inr ht)] at hu
      rw [findV_no hu (by decide)] at hS
      simp only [he, ht, Qs, and_true, false_implies, forall_const, not_true_eq_false]
      exact hS
  · rw [if_pos (.inl he)] at hu
    rw [findV_no hu (by decide)] at hS
    simp only [he, Qs, and_true, false_implies, forall_const]
    exact hS
end Go.Abs

