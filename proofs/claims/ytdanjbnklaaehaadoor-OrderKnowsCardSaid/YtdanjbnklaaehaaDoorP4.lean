/- A part of the proof; the last text states what is proved. -/
import Derived.Test.YtdanjbnklaaehaaDoorP3
import Derived.Test.YtdanjbnklaaehaaDoorProg
import Derived.IntWalk
set_option linter.unusedVariables false
set_option linter.unusedSimpArgs false
set_option maxRecDepth 100000
namespace Go.Abs
open Go.Proofs
def f8r1 : List AI := [⟨none, (.mov 2 (.v (.k (.c (.bool true)))))⟩]
theorem uf8r1 : type_of% @f8r1.eq_1 := id @f8r1.eq_1
def f8b2 : AQ := (.seq (.region f8r1) .ret)
theorem uf8b2 (P ts os Q) : awl P f8b2 Q ts os = awl P (.seq (.region f8r1) .ret) Q ts os := id rfl
def f8r3 : List AI := [⟨none, (.mov 19 (.t 3))⟩, ⟨none, (.bin 20 .add (.t 19) (.v (.k (.c (.int .i64 1)))))⟩, ⟨none, (.mov 3 (.t 20))⟩]
theorem uf8r3 : type_of% @f8r3.eq_1 := id @f8r3.eq_1
def f8r4 : List AI := [⟨none, (.mov 2 (.v (.k (.c (.bool false)))))⟩]
theorem uf8r4 : type_of% @f8r4.eq_1 := id @f8r4.eq_1
def f8b5 : AQ := (.seq (.region f8r4) .ret)
theorem uf8b5 (P ts os Q) : awl P f8b5 Q ts os = awl P (.seq (.region f8r4) .ret) Q ts os := id rfl
def f8b6 : AQ := (.cond (.t 28) f8b5 .skip)
theorem uf8b6 (P ts os Q) : awl P f8b6 Q ts os = awl P (.cond (.t 28) f8b5 .skip) Q ts os := id rfl
def f8r7 : List AI := [⟨none, (.faddr 21 3 (.t 1))⟩, ⟨none, (.load 22 1 false (.t 21))⟩, ⟨none, (.mov 23 (.t 3))⟩, ⟨none, (.iaddr 24 4 (.t 22) (.t 23))⟩, ⟨none, (.faddr 25 1 (.t 24))⟩, ⟨none, (.load 26 3 true (.t 25))⟩, ⟨none, (.call (some 27) 24 [(.t 26)])⟩, ⟨none, (.un 28 .not (.t 27))⟩]
theorem uf8r7 : type_of% @f8r7.eq_1 := id @f8r7.eq_1
def f8b8 : AQ := (.seq (.region f8r7) f8b6)
theorem uf8b8 (P ts os Q) : awl P f8b8 Q ts os = awl P (.seq (.region f8r7) f8b6) Q ts os := id rfl
def f8b9 : AQ := (.block 1 f8b8)
theorem uf8b9 (P ts os Q) : awl P f8b9 Q ts os = awl P (.block 1 f8b8) Q ts os := id rfl
def f8b10 : AQ := (.seq f8b9 (.region f8r3))
theorem uf8b10 (P ts os Q) : awl P f8b10 Q ts os = awl P (.seq f8b9 (.region f8r3)) Q ts os := id rfl
def f8b11 : AQ := (.cond (.t 18) .skip (.exit 0))
theorem uf8b11 (P ts os Q) : awl P f8b11 Q ts os = awl P (.cond (.t 18) .skip (.exit 0)) Q ts os := id rfl
def f8r12 : List AI := [⟨none, (.mov 14 (.t 3))⟩, ⟨none, (.faddr 15 3 (.t 1))⟩, ⟨none, (.load 16 1 false (.t 15))⟩, ⟨none, (.len 17 (.t 16))⟩, ⟨none, (.bin 18 .lss (.t 14) (.t 17))⟩]
theorem uf8r12 : type_of% @f8r12.eq_1 := id @f8r12.eq_1
def f8b13 : AQ := (.seq (.region f8r12) f8b11)
theorem uf8b13 (P ts os Q) : awl P f8b13 Q ts os = awl P (.seq (.region f8r12) f8b11) Q ts os := id rfl
def f8b14 : AQ := (.seq f8b13 f8b10)
theorem uf8b14 (P ts os Q) : awl P f8b14 Q ts os = awl P (.seq f8b13 f8b10) Q ts os := id rfl
def f8l15 : AQ := .loop [1, 3] [1] f8b14
theorem uf8l15 (P ts os Q) : awl P f8l15 Q ts os = awl P (.loop [1, 3] [1] f8b14) Q ts os := id rfl
def f8b16 : AQ := (.block 0 f8l15)
theorem uf8b16 (P ts os Q) : awl P f8b16 Q ts os = awl P (.block 0 f8l15) Q ts os := id rfl
def f8r17 : List AI := [⟨none, (.mov 3 (.v (.k (.c (.int .i64 0)))))⟩]
theorem uf8r17 : type_of% @f8r17.eq_1 := id @f8r17.eq_1
def f8b18 : AQ := (.seq (.region f8r17) f8b16)
theorem uf8b18 (P ts os Q) : awl P f8b18 Q ts os = awl P (.seq (.region f8r17) f8b16) Q ts os := id rfl
def f8b19 : AQ := (.seq f8b18 f8b2)
theorem uf8b19 (P ts os Q) : awl P f8b19 Q ts os = awl P (.seq f8b18 f8b2) Q ts os := id rfl
def f8r20 : List AI := [⟨none, (.mov 2 (.v (.k (.c (.bool false)))))⟩]
theorem uf8r20 : type_of% @f8r20.eq_1 := id @f8r20.eq_1
def f8b21 : AQ := (.seq (.region f8r20) .ret)
theorem uf8b21 (P ts os Q) : awl P f8b21 Q ts os = awl P (.seq (.region f8r20) .ret) Q ts os := id rfl
def f8b22 : AQ := (.cond (.t 13) f8b21 .skip)
theorem uf8b22 (P ts os Q) : awl P f8b22 Q ts os = awl P (.cond (.t 13) f8b21 .skip) Q ts os := id rfl
def f8r23 : List AI := [⟨none, (.faddr 4 3 (.t 1))⟩, ⟨none, (.load 5 1 false (.t 4))⟩, ⟨none, (.len 6 (.t 5))⟩, ⟨none, (.bin 7 .gtr (.t 6) (.v (.k (.c (.int .i64 60)))))⟩, ⟨none, (.mov 8 (.t 7))⟩, ⟨(some (8, false)), (.faddr 9 2 (.t 1))⟩, ⟨(some (8, false)), (.load 10 1 false (.t 9))⟩, ⟨(some (8, false)), (.len 11 (.t 10))⟩, ⟨(some (8, false)), (.bin 12 .gtr (.t 11) (.v (.k (.c (.int .i64 60)))))⟩, ⟨none, (.pick 13 (.t 8) (.v (.k (.c (.bool true)))) (.t 12))⟩]
theorem uf8r23 : type_of% @f8r23.eq_1 := id @f8r23.eq_1
def f8b24 : AQ := (.seq (.region f8r23) f8b22)
theorem uf8b24 (P ts os Q) : awl P f8b24 Q ts os = awl P (.seq (.region f8r23) f8b22) Q ts os := id rfl
def f8b25 : AQ := (.seq f8b24 f8b19)
theorem uf8b25 (P ts os Q) : awl P f8b25 Q ts os = awl P (.seq f8b24 f8b19) Q ts os := id rfl
def f8r26 : List AI := [⟨none, (.box 1 25 (.t 0))⟩, ⟨none, (.mov 2 (.v (.k (.c (.bool false)))))⟩]
theorem uf8r26 : type_of% @f8r26.eq_1 := id @f8r26.eq_1
def f8b27 : AQ := (.seq (.region f8r26) f8b25)
theorem uf8b27 (P ts os Q) : awl P f8b27 Q ts os = awl P (.seq (.region f8r26) f8b25) Q ts os := id rfl
def f8 : AQ := f8b27
theorem uf8 (P ts os Q) : awl P f8 Q ts os = awl P f8b27 Q ts os := id rfl
theorem hf8 : cFunc Tryd.prog 8 = some ⟨29, f8.erase, [(RX.t 2)]⟩ := by kernel_rfl
theorem okf8 : f8.ok = true := by kernel_rfl
def f9r1 : List AI := [⟨none, (.load 42 2 true (.t 10))⟩, ⟨none, (.store 2 (.t 6) (.t 42))⟩, ⟨none, (.mov 7 (.v (.k (.c (.int .i64 0)))))⟩]
theorem uf9r1 : type_of% @f9r1.eq_1 := id @f9r1.eq_1
def f9b2 : AQ := (.seq (.region f9r1) .ret)
theorem uf9b2 (P ts os Q) : awl P f9b2 Q ts os = awl P (.seq (.region f9r1) .ret) Q ts os := id rfl
def f9r3 : List AI := [⟨none, (.faddr 37 1 (.t 10))⟩, ⟨none, (.load 38 1 false (.t 37))⟩, ⟨none, (.minmax 39 true (.t 38) [(.v (.k (.c (.int .i64 0))))])⟩, ⟨none, (.minmax 40 false (.t 39) [(.v (.k (.c (.int .i64 20000))))])⟩, ⟨none, (.faddr 41 1 (.t 10))⟩, ⟨none, (.store 1 (.t 41) (.t 40))⟩]
theorem uf9r3 : type_of% @f9r3.eq_1 := id @f9r3.eq_1
def f9b4 : AQ := (.cond (.t 36) (.region f9r3) .skip)
theorem uf9b4 (P ts os Q) : awl P f9b4 Q ts os = awl P (.cond (.t 36) (.region f9r3) .skip) Q ts os := id rfl
def f9r5 : List AI := [⟨none, (.mov 31 (.t 11))⟩, ⟨none, (.bin 32 .eql (.t 31) (.v (.k (.c (.int .i64 0)))))⟩, ⟨none, (.mov 33 (.t 32))⟩, ⟨(some (33, true)), (.faddr 34 0 (.t 10))⟩, ⟨(some (33, true)), (.load 35 1 false (.t 34))⟩, ⟨none, (.pick 36 (.t 33) (.t 35) (.v (.k (.c (.bool false)))))⟩]
theorem uf9r5 : type_of% @f9r5.eq_1 := id @f9r5.eq_1
def f9b6 : AQ := (.seq (.region f9r5) f9b4)
theorem uf9b6 (P ts os Q) : awl P f9b6 Q ts os = awl P (.seq (.region f9r5) f9b4) Q ts os := id rfl
def f9r7 : List AI := [⟨none, (.mov 27 (.t 1))⟩, ⟨none, (.call (some 28) 13 [(.t 27)])⟩, ⟨none, (.mov 26 (.t 28))⟩, ⟨none, (.extr 29 (.t 26) 0)⟩, ⟨none, (.extr 30 (.t 26) 1)⟩, ⟨none, (.mov 11 (.t 29))⟩, ⟨none, (.mov 12 (.t 30))⟩]
theorem uf9r7 : type_of% @f9r7.eq_1 := id @f9r7.eq_1
def f9b8 : AQ := (.seq (.region f9r7) f9b6)
theorem uf9b8 (P ts os Q) : awl P f9b8 Q ts os = awl P (.seq (.region f9r7) f9b6) Q ts os := id rfl
def f9b9 : AQ := (.seq f9b8 f9b2)
theorem uf9b9 (P ts os Q) : awl P f9b9 Q ts os = awl P (.seq f9b8 f9b2) Q ts os := id rfl
def f9r10 : List AI := [⟨none, (.load 23 3 true (.t 8))⟩, ⟨none, (.mov 24 (.t 2))⟩, ⟨none, (.call (some 25) 26 [(.t 23), (.t 24)])⟩, ⟨none, (.alloc 10 30 [(.bool false), (.int .i64 0)])⟩, ⟨none, (.store 2 (.t 10) (.t 25))⟩]
theorem uf9r10 : type_of% @f9r10.eq_1 := id @f9r10.eq_1
def f9b11 : AQ := (.seq (.region f9r10) f9b9)
theorem uf9b11 (P ts os Q) : awl P f9b11 Q ts os = awl P (.seq (.region f9r10) f9b9) Q ts os := id rfl
def f9r12 : List AI := [⟨none, (.build 21 [(.bool false), (.int .i64 0)] [])⟩, ⟨none, (.mov 22 (.t 9))⟩, ⟨none, (.store 2 (.t 6) (.t 21))⟩, ⟨none, (.mov 7 (.t 22))⟩]
theorem uf9r12 : type_of% @f9r12.eq_1 := id @f9r12.eq_1
def f9b13 : AQ := (.seq (.region f9r12) .ret)
theorem uf9b13 (P ts os Q) : awl P f9b13 Q ts os = awl P (.seq (.region f9r12) .ret) Q ts os := id rfl
def f9b14 : AQ := (.cond (.t 20) f9b13 .skip)
theorem uf9b14 (P ts os Q) : awl P f9b14 Q ts os = awl P (.cond (.t 20) f9b13 .skip) Q ts os := id rfl
def f9r15 : List AI := [⟨none, (.mov 19 (.t 9))⟩, ⟨none, (.bin 20 .neq (.t 19) (.v (.k (.c (.int .i64 0)))))⟩]
theorem uf9r15 : type_of% @f9r15.eq_1 := id @f9r15.eq_1
def f9b16 : AQ := (.seq (.region f9r15) f9b14)
theorem uf9b16 (P ts os Q) : awl P f9b16 Q ts os = awl P (.seq (.region f9r15) f9b14) Q ts os := id rfl
def f9b17 : AQ := (.seq f9b16 f9b11)
theorem uf9b17 (P ts os Q) : awl P f9b17 Q ts os = awl P (.seq f9b16 f9b11) Q ts os := id rfl
def f9r18 : List AI := [⟨none, (.load 14 4 true (.t 3))⟩, ⟨none, (.mov 15 (.t 1))⟩, ⟨none, (.call (some 16) 25 [(.t 14), (.t 15)])⟩, ⟨none, (.mov 13 (.t 16))⟩, ⟨none, (.extr 17 (.t 13) 0)⟩, ⟨none, (.extr 18 (.t 13) 1)⟩, ⟨none, (.alloc 8 50 [(.int .i64 0), (.int .i64 0), (.list 0 (some true) [])])⟩, ⟨none, (.store 3 (.t 8) (.t 17))⟩, ⟨none, (.mov 9 (.t 18))⟩]
theorem uf9r18 : type_of% @f9r18.eq_1 := id @f9r18.eq_1
def f9b19 : AQ := (.seq (.region f9r18) f9b17)
theorem uf9b19 (P ts os Q) : awl P f9b19 Q ts os = awl P (.seq (.region f9r18) f9b17) Q ts os := id rfl
def f9r20 : List AI := [⟨none, (.box 3 25 (.t 0))⟩, ⟨none, (.alloc 6 30 [(.bool false), (.int .i64 0)])⟩, ⟨none, (.mov 7 (.v (.k (.c (.int .i64 0)))))⟩]
theorem uf9r20 : type_of% @f9r20.eq_1 := id @f9r20.eq_1
def f9b21 : AQ := (.seq (.region f9r20) f9b19)
theorem uf9b21 (P ts os Q) : awl P f9b21 Q ts os = awl P (.seq (.region f9r20) f9b19) Q ts os := id rfl
def f9 : AQ := f9b21
theorem uf9 (P ts os Q) : awl P f9 Q ts os = awl P f9b21 Q ts os := id rfl
theorem hf9 : cFunc Tryd.prog 9 = some ⟨43, f9.erase, [(RX.cell 6 2 true), (RX.t 7)]⟩ := by kernel_rfl
theorem okf9 : f9.ok = true := by kernel_rfl
def f11r1 : List AI := [⟨none, (.mov 31 (.t 1))⟩, ⟨none, (.build 32 [(.int .i64 0), (.int .i64 0), (.bool false)] [(0, (1, (.t 31))), (1, (1, (.v (.k (.c (.int .i64 0))))))])⟩, ⟨none, (.store 3 (.t 4) (.t 32))⟩, ⟨none, (.mov 5 (.v (.k (.c (.int .i64 0)))))⟩]
theorem uf11r1 : type_of% @f11r1.eq_1 := id @f11r1.eq_1
def f11b2 : AQ := (.seq (.region f11r1) .ret)
theorem uf11b2 (P ts os Q) : awl P f11b2 Q ts os = awl P (.seq (.region f11r1) .ret) Q ts os := id rfl
def f11r3 : List AI := [⟨none, (.bin 30 .add (.t 21) (.v (.k (.c (.int .i64 1)))))⟩, ⟨none, (.mov 21 (.t 30))⟩]
theorem uf11r3 : type_of% @f11r3.eq_1 := id @f11r3.eq_1
def f11r4 : List AI := [⟨none, (.load 29 3 true (.t 9))⟩, ⟨none, (.store 3 (.t 4) (.t 29))⟩, ⟨none, (.mov 5 (.v (.k (.c (.int .i64 0)))))⟩]
theorem uf11r4 : type_of% @f11r4.eq_1 := id @f11r4.eq_1
def f11b5 : AQ := (.seq (.region f11r4) .ret)
theorem uf11b5 (P ts os Q) : awl P f11b5 Q ts os = awl P (.seq (.region f11r4) .ret) Q ts os := id rfl
def f11b6 : AQ := (.cond (.t 28) f11b5 .skip)
theorem uf11b6 (P ts os Q) : awl P f11b6 Q ts os = awl P (.cond (.t 28) f11b5 .skip) Q ts os := id rfl
def f11r7 : List AI := [⟨none, (.faddr 25 0 (.t 9))⟩, ⟨none, (.load 26 1 false (.t 25))⟩, ⟨none, (.mov 27 (.t 1))⟩, ⟨none, (.bin 28 .eql (.t 26) (.t 27))⟩]
theorem uf11r7 : type_of% @f11r7.eq_1 := id @f11r7.eq_1
def f11b8 : AQ := (.seq (.region f11r7) f11b6)
theorem uf11b8 (P ts os Q) : awl P f11b8 Q ts os = awl P (.seq (.region f11r7) f11b6) Q ts os := id rfl
def f11r9 : List AI := [⟨none, (.iaddr 23 3 (.t 19) (.t 21))⟩, ⟨none, (.load 24 3 true (.t 23))⟩, ⟨none, (.alloc 9 35 [(.int .i64 0), (.int .i64 0), (.bool false)])⟩, ⟨none, (.store 3 (.t 9) (.t 24))⟩]
theorem uf11r9 : type_of% @f11r9.eq_1 := id @f11r9.eq_1
def f11b10 : AQ := (.seq (.region f11r9) f11b8)
theorem uf11b10 (P ts os Q) : awl P f11b10 Q ts os = awl P (.seq (.region f11r9) f11b8) Q ts os := id rfl
def f11b11 : AQ := (.block 1 f11b10)
theorem uf11b11 (P ts os Q) : awl P f11b11 Q ts os = awl P (.block 1 f11b10) Q ts os := id rfl
def f11b12 : AQ := (.seq f11b11 (.region f11r3))
theorem uf11b12 (P ts os Q) : awl P f11b12 Q ts os = awl P (.seq f11b11 (.region f11r3)) Q ts os := id rfl
def f11b13 : AQ := (.cond (.t 22) .skip (.exit 0))
theorem uf11b13 (P ts os Q) : awl P f11b13 Q ts os = awl P (.cond (.t 22) .skip (.exit 0)) Q ts os := id rfl
def f11b14 : AQ := (.seq f11b13 f11b12)
theorem uf11b14 (P ts os Q) : awl P f11b14 Q ts os = awl P (.seq f11b13 f11b12) Q ts os := id rfl
def f11r15 : List AI := [⟨none, (.bin 22 .lss (.t 21) (.t 20))⟩]
theorem uf11r15 : type_of% @f11r15.eq_1 := id @f11r15.eq_1
def f11b16 : AQ := (.seq (.region f11r15) f11b14)
theorem uf11b16 (P ts os Q) : awl P f11b16 Q ts os = awl P (.seq (.region f11r15) f11b14) Q ts os := id rfl
def f11l17 : AQ := .loop [1, 4, 19, 20, 21] [4] f11b16
theorem uf11l17 (P ts os Q) : awl P f11l17 Q ts os = awl P (.loop [1, 4, 19, 20, 21] [4] f11b16) Q ts os := id rfl
def f11b18 : AQ := (.block 0 f11l17)
theorem uf11b18 (P ts os Q) : awl P f11b18 Q ts os = awl P (.block 0 f11l17) Q ts os := id rfl
def f11r19 : List AI := [⟨none, (.faddr 18 2 (.t 2))⟩, ⟨none, (.load 19 1 false (.t 18))⟩, ⟨none, (.len 20 (.t 19))⟩, ⟨none, (.mov 21 (.v (.k (.c (.int .i64 0)))))⟩]
theorem uf11r19 : type_of% @f11r19.eq_1 := id @f11r19.eq_1
def f11b20 : AQ := (.seq (.region f11r19) f11b18)
theorem uf11b20 (P ts os Q) : awl P f11b20 Q ts os = awl P (.seq (.region f11r19) f11b18) Q ts os := id rfl
def f11b21 : AQ := (.seq f11b20 f11b2)
theorem uf11b21 (P ts os Q) : awl P f11b21 Q ts os = awl P (.seq f11b20 f11b2) Q ts os := id rfl
def f11r22 : List AI := [⟨none, (.build 17 [(.int .i64 0), (.int .i64 0), (.bool false)] [])⟩, ⟨none, (.store 3 (.t 4) (.t 17))⟩, ⟨none, (.mov 5 (.v (.k (.c (.int .i64 1)))))⟩]
theorem uf11r22 : type_of% @f11r22.eq_1 := id @f11r22.eq_1
def f11b23 : AQ := (.seq (.region f11r22) .ret)
theorem uf11b23 (P ts os Q) : awl P f11b23 Q ts os = awl P (.seq (.region f11r22) .ret) Q ts os := id rfl
def f11b24 : AQ := (.cond (.t 16) f11b23 .skip)
theorem uf11b24 (P ts os Q) : awl P f11b24 Q ts os = awl P (.cond (.t 16) f11b23 .skip) Q ts os := id rfl
def f11r25 : List AI := [⟨none, (.mov 15 (.t 7))⟩, ⟨none, (.un 16 .not (.t 15))⟩]
theorem uf11r25 : type_of% @f11r25.eq_1 := id @f11r25.eq_1
def f11b26 : AQ := (.seq (.region f11r25) f11b24)
theorem uf11b26 (P ts os Q) : awl P f11b26 Q ts os = awl P (.seq (.region f11r25) f11b24) Q ts os := id rfl
def f11r27 : List AI := [⟨none, (.mov 11 (.t 1))⟩, ⟨none, (.call (some 12) 13 [(.t 11)])⟩, ⟨none, (.mov 10 (.t 12))⟩, ⟨none, (.extr 13 (.t 10) 0)⟩, ⟨none, (.extr 14 (.t 10) 1)⟩, ⟨none, (.mov 6 (.t 13))⟩, ⟨none, (.mov 7 (.t 14))⟩]
theorem uf11r27 : type_of% @f11r27.eq_1 := id @f11r27.eq_1
def f11b28 : AQ := (.seq (.region f11r27) f11b26)
theorem uf11b28 (P ts os Q) : awl P f11b28 Q ts os = awl P (.seq (.region f11r27) f11b26) Q ts os := id rfl
def f11b29 : AQ := (.seq f11b28 f11b21)
theorem uf11b29 (P ts os Q) : awl P f11b29 Q ts os = awl P (.seq f11b28 f11b21) Q ts os := id rfl
def f11r30 : List AI := [⟨none, (.box 2 25 (.t 0))⟩, ⟨none, (.alloc 4 35 [(.int .i64 0), (.int .i64 0), (.bool false)])⟩, ⟨none, (.mov 5 (.v (.k (.c (.int .i64 0)))))⟩]
theorem uf11r30 : type_of% @f11r30.eq_1 := id @f11r30.eq_1
def f11b31 : AQ := (.seq (.region f11r30) f11b29)
theorem uf11b31 (P ts os Q) : awl P f11b31 Q ts os = awl P (.seq (.region f11r30) f11b29) Q ts os := id rfl
def f11 : AQ := f11b31
theorem uf11 (P ts os Q) : awl P f11 Q ts os = awl P f11b31 Q ts os := id rfl
theorem hf11 : cFunc Tryd.prog 11 = some ⟨33, f11.erase, [(RX.cell 4 3 true), (RX.t 5)]⟩ := by kernel_rfl
theorem okf11 : f11.ok = true := by kernel_rfl
def f13r1 : List AI := [⟨none, (.mov 2 (.v (.k (.c (.int .i64 1)))))⟩, ⟨none, (.mov 3 (.v (.k (.c (.bool true)))))⟩]
theorem uf13r1 : type_of% @f13r1.eq_1 := id @f13r1.eq_1
def f13b2 : AQ := (.seq (.region f13r1) .ret)
theorem uf13b2 (P ts os Q) : awl P f13b2 Q ts os = awl P (.seq (.region f13r1) .ret) Q ts os := id rfl
def f13r3 : List AI := [⟨none, (.mov 2 (.v (.k (.c (.int .i64 0)))))⟩, ⟨none, (.mov 3 (.v (.k (.c (.bool false)))))⟩]
theorem uf13r3 : type_of% @f13r3.eq_1 := id @f13r3.eq_1
def f13b4 : AQ := (.seq (.region f13r3) .ret)
theorem uf13b4 (P ts os Q) : awl P f13b4 Q ts os = awl P (.seq (.region f13r3) .ret) Q ts os := id rfl
def f13r5 : List AI := [⟨none, (.mov 2 (.v (.k (.c (.int .i64 0)))))⟩, ⟨none, (.mov 3 (.v (.k (.c (.bool true)))))⟩]
theorem uf13r5 : type_of% @f13r5.eq_1 := id @f13r5.eq_1
def f13b6 : AQ := (.seq (.region f13r5) .ret)
theorem uf13b6 (P ts os Q) : awl P f13b6 Q ts os = awl P (.seq (.region f13r5) .ret) Q ts os := id rfl
def f13b7 : AQ := (.cond (.t 11) f13b6 .skip)
theorem uf13b7 (P ts os Q) : awl P f13b7 Q ts os = awl P (.cond (.t 11) f13b6 .skip) Q ts os := id rfl
def f13r8 : List AI := [⟨none, (.mov 12 (.v (.k (.c (C.gl 0)))))⟩, ⟨none, (.mov 13 (.t 0))⟩, ⟨none, (.call (some 14) 31 [(.t 12), (.t 13)])⟩, ⟨none, (.mov 11 (.t 14))⟩]
theorem uf13r8 : type_of% @f13r8.eq_1 := id @f13r8.eq_1
def f13b9 : AQ := (.seq (.region f13r8) f13b7)
theorem uf13b9 (P ts os Q) : awl P f13b9 Q ts os = awl P (.seq (.region f13r8) f13b7) Q ts os := id rfl
def f13b10 : AQ := (.cond (.t 4) f13b4 f13b9)
theorem uf13b10 (P ts os Q) : awl P f13b10 Q ts os = awl P (.cond (.t 4) f13b4 f13b9) Q ts os := id rfl
def f13r11 : List AI := [⟨none, (.mov 5 (.t 0))⟩, ⟨none, (.bin 6 .lss (.t 5) (.v (.k (.c (.int .i64 0)))))⟩, ⟨none, (.mov 7 (.t 6))⟩, ⟨(some (7, false)), (.mov 8 (.t 0))⟩, ⟨(some (7, false)), (.bin 9 .geq (.t 8) (.v (.k (.c (.int .i64 22)))))⟩, ⟨none, (.pick 10 (.t 7) (.v (.k (.c (.bool true)))) (.t 9))⟩, ⟨none, (.mov 4 (.t 10))⟩]
theorem uf13r11 : type_of% @f13r11.eq_1 := id @f13r11.eq_1
def f13b12 : AQ := (.seq (.region f13r11) f13b10)
theorem uf13b12 (P ts os Q) : awl P f13b12 Q ts os = awl P (.seq (.region f13r11) f13b10) Q ts os := id rfl
def f13b13 : AQ := (.block 0 f13b12)
theorem uf13b13 (P ts os Q) : awl P f13b13 Q ts os = awl P (.block 0 f13b12) Q ts os := id rfl
def f13b14 : AQ := (.seq f13b13 f13b2)
theorem uf13b14 (P ts os Q) : awl P f13b14 Q ts os = awl P (.seq f13b13 f13b2) Q ts os := id rfl
def f13r15 : List AI := [⟨none, (.mov 2 (.v (.k (.c (.int .i64 0)))))⟩, ⟨none, (.mov 3 (.v (.k (.c (.bool false)))))⟩]
theorem uf13r15 : type_of% @f13r15.eq_1 := id @f13r15.eq_1
def f13b16 : AQ := (.seq (.region f13r15) f13b14)
theorem uf13b16 (P ts os Q) : awl P f13b16 Q ts os = awl P (.seq (.region f13r15) f13b14) Q ts os := id rfl
def f13 : AQ := f13b16
theorem uf13 (P ts os Q) : awl P f13 Q ts os = awl P f13b16 Q ts os := id rfl
theorem hf13 : cFunc Tryd.prog 13 = some ⟨15, f13.erase, [(RX.t 2), (RX.t 3)]⟩ := by kernel_rfl
theorem okf13 : f13.ok = true := by kernel_rfl
def f15r1 : List AI := [⟨none, (.mov 4 (.v (.k (.c (.bool true)))))⟩]
theorem uf15r1 : type_of% @f15r1.eq_1 := id @f15r1.eq_1
def f15b2 : AQ := (.seq (.region f15r1) .ret)
theorem uf15b2 (P ts os Q) : awl P f15b2 Q ts os = awl P (.seq (.region f15r1) .ret) Q ts os := id rfl
def f15r3 : List AI := [⟨none, (.mov 15 (.t 5))⟩, ⟨none, (.bin 16 .add (.t 15) (.v (.k (.c (.int .i64 1)))))⟩, ⟨none, (.mov 5 (.t 16))⟩]
theorem uf15r3 : type_of% @f15r3.eq_1 := id @f15r3.eq_1
def f15r4 : List AI := [⟨none, (.mov 4 (.v (.k (.c (.bool false)))))⟩]
theorem uf15r4 : type_of% @f15r4.eq_1 := id @f15r4.eq_1
def f15b5 : AQ := (.seq (.region f15r4) .ret)
theorem uf15b5 (P ts os Q) : awl P f15b5 Q ts os = awl P (.seq (.region f15r4) .ret) Q ts os := id rfl
def f15b6 : AQ := (.cond (.t 25) f15b5 .skip)
theorem uf15b6 (P ts os Q) : awl P f15b6 Q ts os = awl P (.cond (.t 25) f15b5 .skip) Q ts os := id rfl
def f15r7 : List AI := [⟨none, (.mov 17 (.t 0))⟩, ⟨none, (.mov 18 (.t 5))⟩, ⟨none, (.iaddr 19 1 (.t 17) (.t 18))⟩, ⟨none, (.load 20 1 false (.t 19))⟩, ⟨none, (.mov 21 (.t 1))⟩, ⟨none, (.mov 22 (.t 5))⟩, ⟨none, (.iaddr 23 1 (.t 21) (.t 22))⟩, ⟨none, (.load 24 1 false (.t 23))⟩, ⟨none, (.bin 25 .neq (.t 20) (.t 24))⟩]
theorem uf15r7 : type_of% @f15r7.eq_1 := id @f15r7.eq_1
def f15b8 : AQ := (.seq (.draw f15r7 [[], [], [0, 1], [2], [], [], [4, 5], [6], [3, 7]]) f15b6)
theorem uf15b8 (P ts os Q) : awl P f15b8 Q ts os = awl P (.seq (.draw f15r7 [[], [], [0, 1], [2], [], [], [4, 5], [6], [3, 7]]) f15b6) Q ts os := id rfl
def f15b9 : AQ := (.block 1 f15b8)
theorem uf15b9 (P ts os Q) : awl P f15b9 Q ts os = awl P (.block 1 f15b8) Q ts os := id rfl
def f15b10 : AQ := (.seq f15b9 (.region f15r3))
theorem uf15b10 (P ts os Q) : awl P f15b10 Q ts os = awl P (.seq f15b9 (.region f15r3)) Q ts os := id rfl
def f15b11 : AQ := (.cond (.t 14) .skip (.exit 0))
theorem uf15b11 (P ts os Q) : awl P f15b11 Q ts os = awl P (.cond (.t 14) .skip (.exit 0)) Q ts os := id rfl
def f15r12 : List AI := [⟨none, (.mov 11 (.t 5))⟩, ⟨none, (.mov 12 (.t 0))⟩, ⟨none, (.len 13 (.t 12))⟩, ⟨none, (.bin 14 .lss (.t 11) (.t 13))⟩]
theorem uf15r12 : type_of% @f15r12.eq_1 := id @f15r12.eq_1
def f15b13 : AQ := (.seq (.region f15r12) f15b11)
theorem uf15b13 (P ts os Q) : awl P f15b13 Q ts os = awl P (.seq (.region f15r12) f15b11) Q ts os := id rfl
def f15b14 : AQ := (.seq f15b13 f15b10)
theorem uf15b14 (P ts os Q) : awl P f15b14 Q ts os = awl P (.seq f15b13 f15b10) Q ts os := id rfl
def f15l15 : AQ := .loop [0, 1, 5] [] f15b14
theorem uf15l15 (P ts os Q) : awl P f15l15 Q ts os = awl P (.loop [0, 1, 5] [] f15b14) Q ts os := id rfl
def f15b16 : AQ := (.block 0 f15l15)
theorem uf15b16 (P ts os Q) : awl P f15b16 Q ts os = awl P (.block 0 f15l15) Q ts os := id rfl
def f15r17 : List AI := [⟨none, (.mov 5 (.v (.k (.c (.int .i64 0)))))⟩]
theorem uf15r17 : type_of% @f15r17.eq_1 := id @f15r17.eq_1
def f15b18 : AQ := (.seq (.region f15r17) f15b16)
theorem uf15b18 (P ts os Q) : awl P f15b18 Q ts os = awl P (.seq (.region f15r17) f15b16) Q ts os := id rfl
def f15b19 : AQ := (.seq f15b18 f15b2)
theorem uf15b19 (P ts os Q) : awl P f15b19 Q ts os = awl P (.seq f15b18 f15b2) Q ts os := id rfl
def f15r20 : List AI := [⟨none, (.mov 4 (.v (.k (.c (.bool false)))))⟩]
theorem uf15r20 : type_of% @f15r20.eq_1 := id @f15r20.eq_1
def f15b21 : AQ := (.seq (.region f15r20) .ret)
theorem uf15b21 (P ts os Q) : awl P f15b21 Q ts os = awl P (.seq (.region f15r20) .ret) Q ts os := id rfl
def f15b22 : AQ := (.cond (.t 10) f15b21 .skip)
theorem uf15b22 (P ts os Q) : awl P f15b22 Q ts os = awl P (.cond (.t 10) f15b21 .skip) Q ts os := id rfl
def f15r23 : List AI := [⟨none, (.mov 6 (.t 0))⟩, ⟨none, (.len 7 (.t 6))⟩, ⟨none, (.mov 8 (.t 1))⟩, ⟨none, (.len 9 (.t 8))⟩, ⟨none, (.bin 10 .neq (.t 7) (.t 9))⟩]
theorem uf15r23 : type_of% @f15r23.eq_1 := id @f15r23.eq_1
def f15b24 : AQ := (.seq (.region f15r23) f15b22)
theorem uf15b24 (P ts os Q) : awl P f15b24 Q ts os = awl P (.seq (.region f15r23) f15b22) Q ts os := id rfl
def f15b25 : AQ := (.seq f15b24 f15b19)
theorem uf15b25 (P ts os Q) : awl P f15b25 Q ts os = awl P (.seq f15b24 f15b19) Q ts os := id rfl
def f15r26 : List AI := [⟨none, (.mov 4 (.v (.k (.c (.bool false)))))⟩]
theorem uf15r26 : type_of% @f15r26.eq_1 := id @f15r26.eq_1
def f15b27 : AQ := (.seq (.region f15r26) f15b25)
theorem uf15b27 (P ts os Q) : awl P f15b27 Q ts os = awl P (.seq (.region f15r26) f15b25) Q ts os := id rfl
def f15 : AQ := f15b27
theorem uf15 (P ts os Q) : awl P f15 Q ts os = awl P f15b27 Q ts os := id rfl
theorem hf15 : cFunc Tryd.prog 15 = some ⟨26, f15.erase, [(RX.t 4)]⟩ := by kernel_rfl
theorem okf15 : f15.ok = true := by kernel_rfl
def f16r1 : List AI := [⟨none, (.load 17 3 true (.t 7))⟩, ⟨none, (.mov 18 (.t 2))⟩, ⟨none, (.call (some 19) 32 [(.t 17), (.t 18)])⟩, ⟨none, (.mov 6 (.t 19))⟩]
theorem uf16r1 : type_of% @f16r1.eq_1 := id @f16r1.eq_1
def f16b2 : AQ := (.seq (.region f16r1) .ret)
theorem uf16b2 (P ts os Q) : awl P f16b2 Q ts os = awl P (.seq (.region f16r1) .ret) Q ts os := id rfl
def f16r3 : List AI := [⟨none, (.nilL 6 3 1)⟩]
theorem uf16r3 : type_of% @f16r3.eq_1 := id @f16r3.eq_1
def f16b4 : AQ := (.seq (.region f16r3) .ret)
theorem uf16b4 (P ts os Q) : awl P f16b4 Q ts os = awl P (.seq (.region f16r3) .ret) Q ts os := id rfl
def f16b5 : AQ := (.cond (.t 16) f16b4 .skip)
theorem uf16b5 (P ts os Q) : awl P f16b5 Q ts os = awl P (.cond (.t 16) f16b4 .skip) Q ts os := id rfl
def f16r6 : List AI := [⟨none, (.mov 15 (.t 8))⟩, ⟨none, (.bin 16 .neq (.t 15) (.v (.k (.c (.int .i64 0)))))⟩]
theorem uf16r6 : type_of% @f16r6.eq_1 := id @f16r6.eq_1
def f16b7 : AQ := (.seq (.region f16r6) f16b5)
theorem uf16b7 (P ts os Q) : awl P f16b7 Q ts os = awl P (.seq (.region f16r6) f16b5) Q ts os := id rfl
def f16b8 : AQ := (.seq f16b7 f16b2)
theorem uf16b8 (P ts os Q) : awl P f16b8 Q ts os = awl P (.seq f16b7 f16b2) Q ts os := id rfl
def f16r9 : List AI := [⟨none, (.load 10 4 true (.t 3))⟩, ⟨none, (.mov 11 (.t 1))⟩, ⟨none, (.call (some 12) 25 [(.t 10), (.t 11)])⟩, ⟨none, (.mov 9 (.t 12))⟩, ⟨none, (.extr 13 (.t 9) 0)⟩, ⟨none, (.extr 14 (.t 9) 1)⟩, ⟨none, (.alloc 7 50 [(.int .i64 0), (.int .i64 0), (.list 0 (some true) [])])⟩, ⟨none, (.store 3 (.t 7) (.t 13))⟩, ⟨none, (.mov 8 (.t 14))⟩]
theorem uf16r9 : type_of% @f16r9.eq_1 := id @f16r9.eq_1
def f16b10 : AQ := (.seq (.region f16r9) f16b8)
theorem uf16b10 (P ts os Q) : awl P f16b10 Q ts os = awl P (.seq (.region f16r9) f16b8) Q ts os := id rfl
def f16r11 : List AI := [⟨none, (.box 3 25 (.t 0))⟩, ⟨none, (.nilL 6 3 1)⟩]
theorem uf16r11 : type_of% @f16r11.eq_1 := id @f16r11.eq_1
def f16b12 : AQ := (.seq (.region f16r11) f16b10)
theorem uf16b12 (P ts os Q) : awl P f16b12 Q ts os = awl P (.seq (.region f16r11) f16b10) Q ts os := id rfl
def f16 : AQ := f16b12
theorem uf16 (P ts os Q) : awl P f16 Q ts os = awl P f16b12 Q ts os := id rfl
theorem hf16 : cFunc Tryd.prog 16 = some ⟨20, f16.erase, [(RX.t 6)]⟩ := by kernel_rfl
theorem okf16 : f16.ok = true := by kernel_rfl
def f18r1 : List AI := [⟨none, (.load 15 3 true (.t 5))⟩, ⟨none, (.call (some 16) 34 [(.t 15)])⟩, ⟨none, (.mov 4 (.t 16))⟩]
theorem uf18r1 : type_of% @f18r1.eq_1 := id @f18r1.eq_1
def f18b2 : AQ := (.seq (.region f18r1) .ret)
theorem uf18b2 (P ts os Q) : awl P f18b2 Q ts os = awl P (.seq (.region f18r1) .ret) Q ts os := id rfl
def f18r3 : List AI := [⟨none, (.nilL 4 3 1)⟩]
theorem uf18r3 : type_of% @f18r3.eq_1 := id @f18r3.eq_1
def f18b4 : AQ := (.seq (.region f18r3) .ret)
theorem uf18b4 (P ts os Q) : awl P f18b4 Q ts os = awl P (.seq (.region f18r3) .ret) Q ts os := id rfl
def f18b5 : AQ := (.cond (.t 14) f18b4 .skip)
theorem uf18b5 (P ts os Q) : awl P f18b5 Q ts os = awl P (.cond (.t 14) f18b4 .skip) Q ts os := id rfl
def f18r6 : List AI := [⟨none, (.mov 13 (.t 6))⟩, ⟨none, (.bin 14 .neq (.t 13) (.v (.k (.c (.int .i64 0)))))⟩]
theorem uf18r6 : type_of% @f18r6.eq_1 := id @f18r6.eq_1
def f18b7 : AQ := (.seq (.region f18r6) f18b5)
theorem uf18b7 (P ts os Q) : awl P f18b7 Q ts os = awl P (.seq (.region f18r6) f18b5) Q ts os := id rfl
def f18b8 : AQ := (.seq f18b7 f18b2)
theorem uf18b8 (P ts os Q) : awl P f18b8 Q ts os = awl P (.seq f18b7 f18b2) Q ts os := id rfl
def f18r9 : List AI := [⟨none, (.load 8 4 true (.t 2))⟩, ⟨none, (.mov 9 (.t 1))⟩, ⟨none, (.call (some 10) 25 [(.t 8), (.t 9)])⟩, ⟨none, (.mov 7 (.t 10))⟩, ⟨none, (.extr 11 (.t 7) 0)⟩, ⟨none, (.extr 12 (.t 7) 1)⟩, ⟨none, (.alloc 5 50 [(.int .i64 0), (.int .i64 0), (.list 0 (some true) [])])⟩, ⟨none, (.store 3 (.t 5) (.t 11))⟩, ⟨none, (.mov 6 (.t 12))⟩]
theorem uf18r9 : type_of% @f18r9.eq_1 := id @f18r9.eq_1
def f18b10 : AQ := (.seq (.region f18r9) f18b8)
theorem uf18b10 (P ts os Q) : awl P f18b10 Q ts os = awl P (.seq (.region f18r9) f18b8) Q ts os := id rfl
def f18r11 : List AI := [⟨none, (.box 2 25 (.t 0))⟩, ⟨none, (.nilL 4 3 1)⟩]
theorem uf18r11 : type_of% @f18r11.eq_1 := id @f18r11.eq_1
def f18b12 : AQ := (.seq (.region f18r11) f18b10)
theorem uf18b12 (P ts os Q) : awl P f18b12 Q ts os = awl P (.seq (.region f18r11) f18b10) Q ts os := id rfl
def f18 : AQ := f18b12
theorem uf18 (P ts os Q) : awl P f18 Q ts os = awl P f18b12 Q ts os := id rfl
theorem hf18 : cFunc Tryd.prog 18 = some ⟨17, f18.erase, [(RX.t 4)]⟩ := by kernel_rfl
theorem okf18 : f18.ok = true := by kernel_rfl
def f20r1 : List AI := [⟨none, (.mov 50 (.t 5))⟩, ⟨none, (.mov 4 (.t 50))⟩]
theorem uf20r1 : type_of% @f20r1.eq_1 := id @f20r1.eq_1
def f20b2 : AQ := (.seq (.region f20r1) .ret)
theorem uf20b2 (P ts os Q) : awl P f20b2 Q ts os = awl P (.seq (.region f20r1) .ret) Q ts os := id rfl
def f20r3 : List AI := [⟨none, (.mov 17 (.t 6))⟩, ⟨none, (.bin 18 .add (.t 17) (.v (.k (.c (.int .i64 1)))))⟩, ⟨none, (.mov 6 (.t 18))⟩]
theorem uf20r3 : type_of% @f20r3.eq_1 := id @f20r3.eq_1
def f20r4 : List AI := [⟨none, (.mov 36 (.t 5))⟩, ⟨none, (.mov 37 (.t 0))⟩, ⟨none, (.mov 38 (.t 6))⟩, ⟨none, (.iaddr 39 2 (.t 37) (.t 38))⟩, ⟨none, (.load 40 2 true (.t 39))⟩, ⟨none, (.bslice 41 30 2 [(.bool false), (.int .i64 0)] 1 [(0, (.t 40))])⟩, ⟨none, (.append 42 30 2 16 (.t 36) (.t 41))⟩, ⟨none, (.mov 5 (.t 42))⟩]
theorem uf20r4 : type_of% @f20r4.eq_1 := id @f20r4.eq_1
def f20r5 : List AI := [⟨none, (.mov 43 (.t 5))⟩, ⟨none, (.mov 44 (.t 1))⟩, ⟨none, (.mov 45 (.t 6))⟩, ⟨none, (.iaddr 46 2 (.t 44) (.t 45))⟩, ⟨none, (.load 47 2 true (.t 46))⟩, ⟨none, (.bslice 48 30 2 [(.bool false), (.int .i64 0)] 1 [(0, (.t 47))])⟩, ⟨none, (.append 49 30 2 16 (.t 43) (.t 48))⟩, ⟨none, (.mov 5 (.t 49))⟩]
theorem uf20r5 : type_of% @f20r5.eq_1 := id @f20r5.eq_1
def f20b6 : AQ := (.cond (.t 35) (.region f20r4) (.region f20r5))
theorem uf20b6 (P ts os Q) : awl P f20b6 Q ts os = awl P (.cond (.t 35) (.region f20r4) (.region f20r5)) Q ts os := id rfl
def f20r7 : List AI := [⟨none, (.mov 19 (.t 6))⟩, ⟨none, (.mov 20 (.t 0))⟩, ⟨none, (.len 21 (.t 20))⟩, ⟨none, (.bin 22 .lss (.t 19) (.t 21))⟩, ⟨none, (.mov 23 (.t 22))⟩, ⟨(some (23, true)), (.mov 24 (.t 0))⟩, ⟨(some (23, true)), (.mov 25 (.t 6))⟩, ⟨(some (23, true)), (.iaddr 26 2 (.t 24) (.t 25))⟩, ⟨(some (23, true)), (.faddr 27 0 (.t 26))⟩, ⟨(some (23, true)), (.load 28 1 false (.t 27))⟩, ⟨(some (23, true)), (.mov 29 (.t 28))⟩, ⟨(some (29, false)), (.mov 30 (.t 6))⟩, ⟨(some (29, false)), (.mov 31 (.t 1))⟩, ⟨(some (29, false)), (.len 32 (.t 31))⟩, ⟨(some (29, false)), (.bin 33 .geq (.t 30) (.t 32))⟩, ⟨(some (23, true)), (.pick 34 (.t 29) (.v (.k (.c (.bool true)))) (.t 33))⟩, ⟨none, (.pick 35 (.t 23) (.t 34) (.v (.k (.c (.bool false)))))⟩]
theorem uf20r7 : type_of% @f20r7.eq_1 := id @f20r7.eq_1
def f20b8 : AQ := (.seq (.region f20r7) f20b6)
theorem uf20b8 (P ts os Q) : awl P f20b8 Q ts os = awl P (.seq (.region f20r7) f20b6) Q ts os := id rfl
def f20b9 : AQ := (.block 1 f20b8)
theorem uf20b9 (P ts os Q) : awl P f20b9 Q ts os = awl P (.block 1 f20b8) Q ts os := id rfl
def f20b10 : AQ := (.seq f20b9 (.region f20r3))
theorem uf20b10 (P ts os Q) : awl P f20b10 Q ts os = awl P (.seq f20b9 (.region f20r3)) Q ts os := id rfl
def f20b11 : AQ := (.cond (.t 16) .skip (.exit 0))
theorem uf20b11 (P ts os Q) : awl P f20b11 Q ts os = awl P (.cond (.t 16) .skip (.exit 0)) Q ts os := id rfl
def f20r12 : List AI := [⟨none, (.mov 7 (.t 6))⟩, ⟨none, (.mov 8 (.t 0))⟩, ⟨none, (.len 9 (.t 8))⟩, ⟨none, (.bin 10 .lss (.t 7) (.t 9))⟩, ⟨none, (.mov 11 (.t 10))⟩, ⟨(some (11, false)), (.mov 12 (.t 6))⟩, ⟨(some (11, false)), (.mov 13 (.t 1))⟩, ⟨(some (11, false)), (.len 14 (.t 13))⟩, ⟨(some (11, false)), (.bin 15 .lss (.t 12) (.t 14))⟩, ⟨none, (.pick 16 (.t 11) (.v (.k (.c (.bool true)))) (.t 15))⟩]
theorem uf20r12 : type_of% @f20r12.eq_1 := id @f20r12.eq_1
def f20b13 : AQ := (.seq (.region f20r12) f20b11)
theorem uf20b13 (P ts os Q) : awl P f20b13 Q ts os = awl P (.seq (.region f20r12) f20b11) Q ts os := id rfl
def f20b14 : AQ := (.seq f20b13 f20b10)
theorem uf20b14 (P ts os Q) : awl P f20b14 Q ts os = awl P (.seq f20b13 f20b10) Q ts os := id rfl
def f20l15 : AQ := .loop [0, 1, 5, 6] [5, 42, 49] f20b14
theorem uf20l15 (P ts os Q) : awl P f20l15 Q ts os = awl P (.loop [0, 1, 5, 6] [5, 42, 49] f20b14) Q ts os := id rfl
def f20b16 : AQ := (.block 0 f20l15)
theorem uf20b16 (P ts os Q) : awl P f20b16 Q ts os = awl P (.block 0 f20l15) Q ts os := id rfl
def f20r17 : List AI := [⟨none, (.mov 6 (.v (.k (.c (.int .i64 0)))))⟩]
theorem uf20r17 : type_of% @f20r17.eq_1 := id @f20r17.eq_1
def f20b18 : AQ := (.seq (.region f20r17) f20b16)
theorem uf20b18 (P ts os Q) : awl P f20b18 Q ts os = awl P (.seq (.region f20r17) f20b16) Q ts os := id rfl
def f20b19 : AQ := (.seq f20b18 f20b2)
theorem uf20b19 (P ts os Q) : awl P f20b19 Q ts os = awl P (.seq f20b18 f20b2) Q ts os := id rfl
def f20r20 : List AI := [⟨none, (.nilL 5 30 2)⟩]
theorem uf20r20 : type_of% @f20r20.eq_1 := id @f20r20.eq_1
def f20b21 : AQ := (.seq (.region f20r20) f20b19)
theorem uf20b21 (P ts os Q) : awl P f20b21 Q ts os = awl P (.seq (.region f20r20) f20b19) Q ts os := id rfl
def f20r22 : List AI := [⟨none, (.nilL 4 30 2)⟩]
theorem uf20r22 : type_of% @f20r22.eq_1 := id @f20r22.eq_1
def f20b23 : AQ := (.seq (.region f20r22) f20b21)
theorem uf20b23 (P ts os Q) : awl P f20b23 Q ts os = awl P (.seq (.region f20r22) f20b21) Q ts os := id rfl
def f20 : AQ := f20b23
theorem uf20 (P ts os Q) : awl P f20 Q ts os = awl P f20b23 Q ts os := id rfl
theorem hf20 : cFunc Tryd.prog 20 = some ⟨51, f20.erase, [(RX.t 4)]⟩ := by kernel_rfl
theorem okf20 : f20.ok = true := by kernel_rfl
def f22r1 : List AI := [⟨none, (.build 18 [(.int .i64 0), (.int .i64 0), (.bool false)] [(0, (1, (.v (.k (.c (.int .i64 6)))))), (1, (1, (.v (.k (.c (.int .i64 2))))))])⟩, ⟨none, (.bslice 19 35 3 [(.int .i64 0), (.int .i64 0), (.bool false)] 1 [(0, (.t 18))])⟩, ⟨none, (.load 20 3 true (.t 5))⟩, ⟨none, (.build 21 [(.int .i64 0), (.int .i64 0), (.int .i64 0), (.list 0 (some true) [])] [(0, (1, (.v (.k (.c (.int .i64 2)))))), (1, (3, (.t 20)))])⟩, ⟨none, (.load 22 3 true (.t 4))⟩, ⟨none, (.build 23 [(.int .i64 0), (.int .i64 0), (.int .i64 0), (.list 0 (some true) [])] [(0, (1, (.v (.k (.c (.int .i64 6)))))), (1, (3, (.t 22)))])⟩, ⟨none, (.bslice 24 52 4 [(.int .i64 0), (.int .i64 0), (.int .i64 0), (.list 0 (some true) [])] 2 [(0, (.t 21)), (1, (.t 23))])⟩, ⟨none, (.build 25 [(.str []), (.bool false), (.list 0 (some true) []), (.list 0 (some true) [])] [(2, (1, (.t 19))), (3, (1, (.t 24)))])⟩, ⟨none, (.store 4 (.t 0) (.t 25))⟩]
theorem uf22r1 : type_of% @f22r1.eq_1 := id @f22r1.eq_1
def f22b2 : AQ := (.seq (.region f22r1) (.frz 24 (.frz 19 .ret)))
theorem uf22b2 (P ts os Q) : awl P f22b2 Q ts os = awl P (.seq (.region f22r1) (.frz 24 (.frz 19 .ret))) Q ts os := id rfl
def f22r3 : List AI := [⟨none, (.load 14 3 true (.t 1))⟩, ⟨none, (.load 15 3 true (.t 2))⟩, ⟨none, (.bslice 16 50 3 [(.int .i64 0), (.int .i64 0), (.list 0 (some true) [])] 2 [(0, (.t 14)), (1, (.t 15))])⟩, ⟨none, (.build 17 [(.int .i64 0), (.int .i64 0), (.list 0 (some true) [])] [(0, (1, (.v (.k (.c (.int .i64 4)))))), (2, (1, (.t 16)))])⟩, ⟨none, (.alloc 5 50 [(.int .i64 0), (.int .i64 0), (.list 0 (some true) [])])⟩, ⟨none, (.store 3 (.t 5) (.t 17))⟩]
theorem uf22r3 : type_of% @f22r3.eq_1 := id @f22r3.eq_1
def f22b4 : AQ := (.seq (.region f22r3) (.frz 16 f22b2))
theorem uf22b4 (P ts os Q) : awl P f22b4 Q ts os = awl P (.seq (.region f22r3) (.frz 16 f22b2)) Q ts os := id rfl
def f22r5 : List AI := [⟨none, (.load 9 3 true (.t 3))⟩, ⟨none, (.build 10 [(.int .i64 0), (.int .i64 0), (.list 0 (some true) [])] [(1, (1, (.v (.k (.c (.int .i64 0))))))])⟩, ⟨none, (.build 11 [(.int .i64 0), (.int .i64 0), (.list 0 (some true) [])] [(1, (1, (.v (.k (.c (.int .i64 30000))))))])⟩, ⟨none, (.bslice 12 50 3 [(.int .i64 0), (.int .i64 0), (.list 0 (some true) [])] 3 [(0, (.t 9)), (1, (.t 10)), (2, (.t 11))])⟩, ⟨none, (.build 13 [(.int .i64 0), (.int .i64 0), (.list 0 (some true) [])] [(0, (1, (.v (.k (.c (.int .i64 6)))))), (2, (1, (.t 12)))])⟩, ⟨none, (.alloc 4 50 [(.int .i64 0), (.int .i64 0), (.list 0 (some true) [])])⟩, ⟨none, (.store 3 (.t 4) (.t 13))⟩]
theorem uf22r5 : type_of% @f22r5.eq_1 := id @f22r5.eq_1
def f22b6 : AQ := (.seq (.region f22r5) (.frz 12 f22b4))
theorem uf22b6 (P ts os Q) : awl P f22b6 Q ts os = awl P (.seq (.region f22r5) (.frz 12 f22b4)) Q ts os := id rfl
def f22r7 : List AI := [⟨none, (.build 8 [(.int .i64 0), (.int .i64 0), (.list 0 (some true) [])] [(0, (1, (.v (.k (.c (.int .i64 2)))))), (1, (1, (.v (.k (.c (.int .i64 10))))))])⟩, ⟨none, (.alloc 3 50 [(.int .i64 0), (.int .i64 0), (.list 0 (some true) [])])⟩, ⟨none, (.store 3 (.t 3) (.t 8))⟩]
theorem uf22r7 : type_of% @f22r7.eq_1 := id @f22r7.eq_1
def f22b8 : AQ := (.seq (.region f22r7) f22b6)
theorem uf22b8 (P ts os Q) : awl P f22b8 Q ts os = awl P (.seq (.region f22r7) f22b6) Q ts os := id rfl
def f22r9 : List AI := [⟨none, (.build 7 [(.int .i64 0), (.int .i64 0), (.list 0 (some true) [])] [(0, (1, (.v (.k (.c (.int .i64 2)))))), (1, (1, (.v (.k (.c (.int .i64 17))))))])⟩, ⟨none, (.alloc 2 50 [(.int .i64 0), (.int .i64 0), (.list 0 (some true) [])])⟩, ⟨none, (.store 3 (.t 2) (.t 7))⟩]
theorem uf22r9 : type_of% @f22r9.eq_1 := id @f22r9.eq_1
def f22b10 : AQ := (.seq (.region f22r9) f22b8)
theorem uf22b10 (P ts os Q) : awl P f22b10 Q ts os = awl P (.seq (.region f22r9) f22b8) Q ts os := id rfl
def f22r11 : List AI := [⟨none, (.build 6 [(.int .i64 0), (.int .i64 0), (.list 0 (some true) [])] [(0, (1, (.v (.k (.c (.int .i64 2)))))), (1, (1, (.v (.k (.c (.int .i64 15))))))])⟩, ⟨none, (.alloc 1 50 [(.int .i64 0), (.int .i64 0), (.list 0 (some true) [])])⟩, ⟨none, (.store 3 (.t 1) (.t 6))⟩]
theorem uf22r11 : type_of% @f22r11.eq_1 := id @f22r11.eq_1
def f22b12 : AQ := (.seq (.region f22r11) f22b10)
theorem uf22b12 (P ts os Q) : awl P f22b12 Q ts os = awl P (.seq (.region f22r11) f22b10) Q ts os := id rfl
def f22r13 : List AI := [⟨none, (.alloc 0 25 [(.str []), (.bool false), (.list 0 (some true) []), (.list 0 (some true) [])])⟩]
theorem uf22r13 : type_of% @f22r13.eq_1 := id @f22r13.eq_1
def f22b14 : AQ := (.seq (.region f22r13) f22b12)
theorem uf22b14 (P ts os Q) : awl P f22b14 Q ts os = awl P (.seq (.region f22r13) f22b12) Q ts os := id rfl
def f22 : AQ := f22b14
theorem uf22 (P ts os Q) : awl P f22 Q ts os = awl P f22b14 Q ts os := id rfl
theorem hf22 : cFunc Tryd.prog 22 = some ⟨26, f22.erase, [(RX.cell 0 4 true)]⟩ := by kernel_rfl
theorem okf22 : f22.ok = true := by kernel_rfl
def f23r1 : List AI := [⟨none, (.mov 12 (.t 5))⟩, ⟨none, (.mov 4 (.t 12))⟩]
theorem uf23r1 : type_of% @f23r1.eq_1 := id @f23r1.eq_1
def f23b2 : AQ := (.seq (.region f23r1) .ret)
theorem uf23b2 (P ts os Q) : awl P f23b2 Q ts os = awl P (.seq (.region f23r1) .ret) Q ts os := id rfl
def f23r3 : List AI := [⟨none, (.mov 7 (.t 5))⟩, ⟨none, (.mov 8 (.t 0))⟩, ⟨none, (.mov 9 (.t 1))⟩, ⟨none, (.build 10 [(.bool false), (.int .i64 0)] [(0, (1, (.v (.k (.c (.bool true)))))), (1, (1, (.t 9)))])⟩, ⟨none, (.iaddr 11 2 (.t 7) (.t 8))⟩, ⟨none, (.store 2 (.t 11) (.t 10))⟩]
theorem uf23r3 : type_of% @f23r3.eq_1 := id @f23r3.eq_1
def f23b4 : AQ := (.seq (.region f23r3) f23b2)
theorem uf23b4 (P ts os Q) : awl P f23b4 Q ts os = awl P (.seq (.region f23r3) f23b2) Q ts os := id rfl
def f23r5 : List AI := [⟨none, (.mkslice 6 30 2 16 [(.bool false), (.int .i64 0)] (.v (.k (.c (.int .i64 20)))) (.v (.k (.c (.int .i64 20)))))⟩, ⟨none, (.mov 5 (.t 6))⟩]
theorem uf23r5 : type_of% @f23r5.eq_1 := id @f23r5.eq_1
def f23b6 : AQ := (.seq (.region f23r5) f23b4)
theorem uf23b6 (P ts os Q) : awl P f23b6 Q ts os = awl P (.seq (.region f23r5) f23b4) Q ts os := id rfl
def f23r7 : List AI := [⟨none, (.nilL 4 30 2)⟩]
theorem uf23r7 : type_of% @f23r7.eq_1 := id @f23r7.eq_1
def f23b8 : AQ := (.seq (.region f23r7) f23b6)
theorem uf23b8 (P ts os Q) : awl P f23b8 Q ts os = awl P (.seq (.region f23r7) f23b6) Q ts os := id rfl
def f23 : AQ := f23b8
theorem uf23 (P ts os Q) : awl P f23 Q ts os = awl P f23b8 Q ts os := id rfl
theorem hf23 : cFunc Tryd.prog 23 = some ⟨13, f23.erase, [(RX.t 4)]⟩ := by kernel_rfl
theorem okf23 : f23.ok = true := by kernel_rfl
def f24r1 : List AI := [⟨none, (.load 3 3 true (.t 1))⟩, ⟨none, (.call (some 4) 36 [(.t 3), (.v (.k (.c (.int .i64 100)))), (.v (.k (.c (.int .i64 20))))])⟩, ⟨none, (.bin 5 .geq (.t 4) (.v (.k (.c (.int .i64 0)))))⟩, ⟨none, (.mov 2 (.t 5))⟩]
theorem uf24r1 : type_of% @f24r1.eq_1 := id @f24r1.eq_1
def f24b2 : AQ := (.seq (.region f24r1) .ret)
theorem uf24b2 (P ts os Q) : awl P f24b2 Q ts os = awl P (.seq (.region f24r1) .ret) Q ts os := id rfl
def f24r3 : List AI := [⟨none, (.box 1 50 (.t 0))⟩, ⟨none, (.mov 2 (.v (.k (.c (.bool false)))))⟩]
theorem uf24r3 : type_of% @f24r3.eq_1 := id @f24r3.eq_1
def f24b4 : AQ := (.seq (.region f24r3) f24b2)
theorem uf24b4 (P ts os Q) : awl P f24b4 Q ts os = awl P (.seq (.region f24r3) f24b2) Q ts os := id rfl
def f24 : AQ := f24b4
theorem uf24 (P ts os Q) : awl P f24 Q ts os = awl P f24b4 Q ts os := id rfl
theorem hf24 : cFunc Tryd.prog 24 = some ⟨6, f24.erase, [(RX.t 2)]⟩ := by kernel_rfl
theorem okf24 : f24.ok = true := by kernel_rfl
def f25r1 : List AI := [⟨none, (.load 46 3 true (.t 9))⟩, ⟨none, (.store 3 (.t 4) (.t 46))⟩, ⟨none, (.mov 5 (.v (.k (.c (.int .i64 0)))))⟩]
theorem uf25r1 : type_of% @f25r1.eq_1 := id @f25r1.eq_1
def f25b2 : AQ := (.seq (.region f25r1) .ret)
theorem uf25b2 (P ts os Q) : awl P f25b2 Q ts os = awl P (.seq (.region f25r1) .ret) Q ts os := id rfl
def f25r3 : List AI := [⟨none, (.build 45 [(.int .i64 0), (.int .i64 0), (.list 0 (some true) [])] [])⟩, ⟨none, (.store 3 (.t 4) (.t 45))⟩, ⟨none, (.mov 5 (.v (.k (.c (.int .i64 11)))))⟩]
theorem uf25r3 : type_of% @f25r3.eq_1 := id @f25r3.eq_1
def f25b4 : AQ := (.seq (.region f25r3) .ret)
theorem uf25b4 (P ts os Q) : awl P f25b4 Q ts os = awl P (.seq (.region f25r3) .ret) Q ts os := id rfl
def f25b5 : AQ := (.cond (.t 44) f25b4 .skip)
theorem uf25b5 (P ts os Q) : awl P f25b5 Q ts os = awl P (.cond (.t 44) f25b4 .skip) Q ts os := id rfl
def f25r6 : List AI := [⟨none, (.mov 38 (.t 11))⟩, ⟨none, (.bin 39 .neq (.t 38) (.v (.k (.c (.int .i64 0)))))⟩, ⟨none, (.mov 40 (.t 39))⟩, ⟨(some (40, false)), (.mov 41 (.t 10))⟩, ⟨(some (40, false)), (.mov 42 (.t 6))⟩, ⟨(some (40, false)), (.bin 43 .neq (.t 41) (.t 42))⟩, ⟨none, (.pick 44 (.t 40) (.v (.k (.c (.bool true)))) (.t 43))⟩]
theorem uf25r6 : type_of% @f25r6.eq_1 := id @f25r6.eq_1
def f25b7 : AQ := (.seq (.region f25r6) f25b5)
theorem uf25b7 (P ts os Q) : awl P f25b7 Q ts os = awl P (.seq (.region f25r6) f25b5) Q ts os := id rfl
def f25r8 : List AI := [⟨none, (.load 34 3 true (.t 9))⟩, ⟨none, (.call (some 35) 39 [(.t 34)])⟩, ⟨none, (.mov 33 (.t 35))⟩, ⟨none, (.extr 36 (.t 33) 0)⟩, ⟨none, (.extr 37 (.t 33) 1)⟩, ⟨none, (.mov 10 (.t 36))⟩, ⟨none, (.mov 11 (.t 37))⟩]
theorem uf25r8 : type_of% @f25r8.eq_1 := id @f25r8.eq_1
def f25b9 : AQ := (.seq (.region f25r8) f25b7)
theorem uf25b9 (P ts os Q) : awl P f25b9 Q ts os = awl P (.seq (.region f25r8) f25b7) Q ts os := id rfl
def f25b10 : AQ := (.seq f25b9 f25b2)
theorem uf25b10 (P ts os Q) : awl P f25b10 Q ts os = awl P (.seq f25b9 f25b2) Q ts os := id rfl
def f25r11 : List AI := [⟨none, (.faddr 27 3 (.t 2))⟩, ⟨none, (.load 28 1 false (.t 27))⟩, ⟨none, (.mov 29 (.t 8))⟩, ⟨none, (.iaddr 30 4 (.t 28) (.t 29))⟩, ⟨none, (.faddr 31 1 (.t 30))⟩, ⟨none, (.load 32 3 true (.t 31))⟩, ⟨none, (.alloc 9 50 [(.int .i64 0), (.int .i64 0), (.list 0 (some true) [])])⟩, ⟨none, (.store 3 (.t 9) (.t 32))⟩]
theorem uf25r11 : type_of% @f25r11.eq_1 := id @f25r11.eq_1
def f25b12 : AQ := (.seq (.region f25r11) f25b10)
theorem uf25b12 (P ts os Q) : awl P f25b12 Q ts os = awl P (.seq (.region f25r11) f25b10) Q ts os := id rfl
def f25r13 : List AI := [⟨none, (.build 26 [(.int .i64 0), (.int .i64 0), (.list 0 (some true) [])] [])⟩, ⟨none, (.store 3 (.t 4) (.t 26))⟩, ⟨none, (.mov 5 (.v (.k (.c (.int .i64 4)))))⟩]
theorem uf25r13 : type_of% @f25r13.eq_1 := id @f25r13.eq_1
def f25b14 : AQ := (.seq (.region f25r13) .ret)
theorem uf25b14 (P ts os Q) : awl P f25b14 Q ts os = awl P (.seq (.region f25r13) .ret) Q ts os := id rfl
def f25b15 : AQ := (.cond (.t 25) f25b14 .skip)
theorem uf25b15 (P ts os Q) : awl P f25b15 Q ts os = awl P (.cond (.t 25) f25b14 .skip) Q ts os := id rfl
def f25r16 : List AI := [⟨none, (.mov 24 (.t 8))⟩, ⟨none, (.bin 25 .lss (.t 24) (.v (.k (.c (.int .i64 0)))))⟩]
theorem uf25r16 : type_of% @f25r16.eq_1 := id @f25r16.eq_1
def f25b17 : AQ := (.seq (.region f25r16) f25b15)
theorem uf25b17 (P ts os Q) : awl P f25b17 Q ts os = awl P (.seq (.region f25r16) f25b15) Q ts os := id rfl
def f25b18 : AQ := (.seq f25b17 f25b12)
theorem uf25b18 (P ts os Q) : awl P f25b18 Q ts os = awl P (.seq f25b17 f25b12) Q ts os := id rfl
def f25r19 : List AI := [⟨none, (.faddr 20 3 (.t 2))⟩, ⟨none, (.load 21 1 false (.t 20))⟩, ⟨none, (.mkfn 22 38 [(.t 3)])⟩, ⟨none, (.call (some 23) 37 [(.t 21), (.t 22)])⟩, ⟨none, (.mov 8 (.t 23))⟩]
theorem uf25r19 : type_of% @f25r19.eq_1 := id @f25r19.eq_1
def f25b20 : AQ := (.seq (.region f25r19) f25b18)
theorem uf25b20 (P ts os Q) : awl P f25b20 Q ts os = awl P (.seq (.region f25r19) f25b18) Q ts os := id rfl
def f25r21 : List AI := [⟨none, (.build 19 [(.int .i64 0), (.int .i64 0), (.list 0 (some true) [])] [])⟩, ⟨none, (.store 3 (.t 4) (.t 19))⟩, ⟨none, (.mov 5 (.v (.k (.c (.int .i64 1)))))⟩]
theorem uf25r21 : type_of% @f25r21.eq_1 := id @f25r21.eq_1
def f25b22 : AQ := (.seq (.region f25r21) .ret)
theorem uf25b22 (P ts os Q) : awl P f25b22 Q ts os = awl P (.seq (.region f25r21) .ret) Q ts os := id rfl
def f25b23 : AQ := (.cond (.t 18) f25b22 .skip)
theorem uf25b23 (P ts os Q) : awl P f25b23 Q ts os = awl P (.cond (.t 18) f25b22 .skip) Q ts os := id rfl
def f25r24 : List AI := [⟨none, (.mov 17 (.t 7))⟩, ⟨none, (.un 18 .not (.t 17))⟩]
theorem uf25r24 : type_of% @f25r24.eq_1 := id @f25r24.eq_1
def f25b25 : AQ := (.seq (.region f25r24) f25b23)
theorem uf25b25 (P ts os Q) : awl P f25b25 Q ts os = awl P (.seq (.region f25r24) f25b23) Q ts os := id rfl
def f25b26 : AQ := (.seq f25b25 f25b20)
theorem uf25b26 (P ts os Q) : awl P f25b26 Q ts os = awl P (.seq f25b25 f25b20) Q ts os := id rfl
def f25r27 : List AI := [⟨none, (.load 13 1 false (.t 3))⟩, ⟨none, (.call (some 14) 13 [(.t 13)])⟩, ⟨none, (.mov 12 (.t 14))⟩, ⟨none, (.extr 15 (.t 12) 0)⟩, ⟨none, (.extr 16 (.t 12) 1)⟩, ⟨none, (.mov 6 (.t 15))⟩, ⟨none, (.mov 7 (.t 16))⟩]
theorem uf25r27 : type_of% @f25r27.eq_1 := id @f25r27.eq_1
def f25b28 : AQ := (.seq (.region f25r27) f25b26)
theorem uf25b28 (P ts os Q) : awl P f25b28 Q ts os = awl P (.seq (.region f25r27) f25b26) Q ts os := id rfl
def f25r29 : List AI := [⟨none, (.box 2 25 (.t 0))⟩, ⟨none, (.box 3 3 (.t 1))⟩, ⟨none, (.alloc 4 50 [(.int .i64 0), (.int .i64 0), (.list 0 (some true) [])])⟩, ⟨none, (.mov 5 (.v (.k (.c (.int .i64 0)))))⟩]
theorem uf25r29 : type_of% @f25r29.eq_1 := id @f25r29.eq_1
def f25b30 : AQ := (.seq (.region f25r29) f25b28)
theorem uf25b30 (P ts os Q) : awl P f25b30 Q ts os = awl P (.seq (.region f25r29) f25b28) Q ts os := id rfl
def f25 : AQ := f25b30
theorem uf25 (P ts os Q) : awl P f25 Q ts os = awl P f25b30 Q ts os := id rfl
theorem hf25 : cFunc Tryd.prog 25 = some ⟨47, f25.erase, [(RX.cell 4 3 true), (RX.t 5)]⟩ := by kernel_rfl
theorem okf25 : f25.ok = true := by kernel_rfl
def f26r1 : List AI := [⟨none, (.load 24 2 true (.t 7))⟩, ⟨none, (.store 2 (.t 4) (.t 24))⟩]
theorem uf26r1 : type_of% @f26r1.eq_1 := id @f26r1.eq_1
def f26b2 : AQ := (.seq (.region f26r1) .ret)
theorem uf26b2 (P ts os Q) : awl P f26b2 Q ts os = awl P (.seq (.region f26r1) .ret) Q ts os := id rfl
def f26r3 : List AI := [⟨none, (.mov 18 (.t 1))⟩, ⟨none, (.build 19 [(.list 0 (some true) [])] [(0, (1, (.t 18)))])⟩, ⟨none, (.load 20 3 true (.t 2))⟩, ⟨none, (.call (some 21) 40 [(.t 19), (.t 20)])⟩, ⟨none, (.mov 17 (.t 21))⟩, ⟨none, (.extr 22 (.t 17) 0)⟩, ⟨none, (.extr 23 (.t 17) 1)⟩, ⟨none, (.alloc 7 30 [(.bool false), (.int .i64 0)])⟩, ⟨none, (.store 2 (.t 7) (.t 22))⟩, ⟨none, (.mov 8 (.t 23))⟩]
theorem uf26r3 : type_of% @f26r3.eq_1 := id @f26r3.eq_1
def f26b4 : AQ := (.seq (.region f26r3) f26b2)
theorem uf26b4 (P ts os Q) : awl P f26b4 Q ts os = awl P (.seq (.region f26r3) f26b2) Q ts os := id rfl
def f26r5 : List AI := [⟨none, (.build 16 [(.bool false), (.int .i64 0)] [])⟩, ⟨none, (.store 2 (.t 4) (.t 16))⟩]
theorem uf26r5 : type_of% @f26r5.eq_1 := id @f26r5.eq_1
def f26b6 : AQ := (.seq (.region f26r5) .ret)
theorem uf26b6 (P ts os Q) : awl P f26b6 Q ts os = awl P (.seq (.region f26r5) .ret) Q ts os := id rfl
def f26b7 : AQ := (.cond (.t 15) f26b6 .skip)
theorem uf26b7 (P ts os Q) : awl P f26b7 Q ts os = awl P (.cond (.t 15) f26b6 .skip) Q ts os := id rfl
def f26r8 : List AI := [⟨none, (.mov 14 (.t 6))⟩, ⟨none, (.bin 15 .neq (.t 14) (.v (.k (.c (.int .i64 0)))))⟩]
theorem uf26r8 : type_of% @f26r8.eq_1 := id @f26r8.eq_1
def f26b9 : AQ := (.seq (.region f26r8) f26b7)
theorem uf26b9 (P ts os Q) : awl P f26b9 Q ts os = awl P (.seq (.region f26r8) f26b7) Q ts os := id rfl
def f26r10 : List AI := [⟨none, (.load 10 3 true (.t 2))⟩, ⟨none, (.call (some 11) 39 [(.t 10)])⟩, ⟨none, (.mov 9 (.t 11))⟩, ⟨none, (.extr 12 (.t 9) 0)⟩, ⟨none, (.extr 13 (.t 9) 1)⟩, ⟨none, (.mov 5 (.t 12))⟩, ⟨none, (.mov 6 (.t 13))⟩]
theorem uf26r10 : type_of% @f26r10.eq_1 := id @f26r10.eq_1
def f26b11 : AQ := (.seq (.region f26r10) f26b9)
theorem uf26b11 (P ts os Q) : awl P f26b11 Q ts os = awl P (.seq (.region f26r10) f26b9) Q ts os := id rfl
def f26b12 : AQ := (.seq f26b11 f26b4)
theorem uf26b12 (P ts os Q) : awl P f26b12 Q ts os = awl P (.seq f26b11 f26b4) Q ts os := id rfl
def f26r13 : List AI := [⟨none, (.box 2 50 (.t 0))⟩, ⟨none, (.alloc 4 30 [(.bool false), (.int .i64 0)])⟩]
theorem uf26r13 : type_of% @f26r13.eq_1 := id @f26r13.eq_1
def f26b14 : AQ := (.seq (.region f26r13) f26b12)
theorem uf26b14 (P ts os Q) : awl P f26b14 Q ts os = awl P (.seq (.region f26r13) f26b12) Q ts os := id rfl
def f26 : AQ := f26b14
theorem uf26 (P ts os Q) : awl P f26 Q ts os = awl P f26b14 Q ts os := id rfl
theorem hf26 : cFunc Tryd.prog 26 = some ⟨25, f26.erase, [(RX.cell 4 2 true)]⟩ := by kernel_rfl
theorem okf26 : f26.ok = true := by kernel_rfl
def f32r1 : List AI := [⟨none, (.mov 25 (.t 8))⟩, ⟨none, (.call (some 26) 46 [(.t 25)])⟩, ⟨none, (.mov 4 (.t 26))⟩]
def f32b2 : AQ := (.seq (.region f32r1) .ret)
def f32r3 : List AI := [⟨none, (.mov 23 (.t 8))⟩, ⟨none, (.call (some 24) 45 [(.t 23)])⟩]
def f32b4 : AQ := (.seq (.region f32r3) f32b2)
def f32r5 : List AI := [⟨none, (.mov 17 (.t 1))⟩, ⟨none, (.build 18 [(.list 0 (some true) [])] [(0, (1, (.t 17)))])⟩, ⟨none, (.load 19 3 true (.t 2))⟩, ⟨none, (.call (some 20) 40 [(.t 18), (.t 19)])⟩, ⟨none, (.mov 16 (.t 20))⟩, ⟨none, (.extr 21 (.t 16) 0)⟩, ⟨none, (.extr 22 (.t 16) 1)⟩, ⟨none, (.alloc 7 30 [(.bool false), (.int .i64 0)])⟩, ⟨none, (.store 2 (.t 7) (.t 21))⟩, ⟨none, (.mov 8 (.t 22))⟩]
theorem uf32r5 : type_of% @f32r5.eq_1 := id @f32r5.eq_1
def f32b6 : AQ := (.seq (.region f32r5) f32b4)
def f32r7 : List AI := [⟨none, (.nilL 4 3 1)⟩]
theorem uf32r7 : type_of% @f32r7.eq_1 := id @f32r7.eq_1
def f32b8 : AQ := (.seq (.region f32r7) .ret)
theorem uf32b8 (P ts os Q) : awl P f32b8 Q ts os = awl P (.seq (.region f32r7) .ret) Q ts os := id rfl
def f32b9 : AQ := (.cond (.t 15) f32b8 .skip)
theorem uf32b9 (P ts os Q) : awl P f32b9 Q ts os = awl P (.cond (.t 15) f32b8 .skip) Q ts os := id rfl
def f32r10 : List AI := [⟨none, (.mov 14 (.t 6))⟩, ⟨none, (.bin 15 .neq (.t 14) (.v (.k (.c (.int .i64 0)))))⟩]
theorem uf32r10 : type_of% @f32r10.eq_1 := id @f32r10.eq_1
def f32b11 : AQ := (.seq (.region f32r10) f32b9)
theorem uf32b11 (P ts os Q) : awl P f32b11 Q ts os = awl P (.seq (.region f32r10) f32b9) Q ts os := id rfl
def f32r12 : List AI := [⟨none, (.load 10 3 true (.t 2))⟩, ⟨none, (.call (some 11) 39 [(.t 10)])⟩, ⟨none, (.mov 9 (.t 11))⟩, ⟨none, (.extr 12 (.t 9) 0)⟩, ⟨none, (.extr 13 (.t 9) 1)⟩, ⟨none, (.mov 5 (.t 12))⟩, ⟨none, (.mov 6 (.t 13))⟩]
theorem uf32r12 : type_of% @f32r12.eq_1 := id @f32r12.eq_1
def f32b13 : AQ := (.seq (.region f32r12) f32b11)
theorem uf32b13 (P ts os Q) : awl P f32b13 Q ts os = awl P (.seq (.region f32r12) f32b11) Q ts os := id rfl
def f32b14 : AQ := (.seq f32b13 f32b6)
def f32r15 : List AI := [⟨none, (.box 2 50 (.t 0))⟩, ⟨none, (.nilL 4 3 1)⟩]
theorem uf32r15 : type_of% @f32r15.eq_1 := id @f32r15.eq_1
def f32b16 : AQ := (.seq (.region f32r15) f32b14)
def f32 : AQ := f32b16
theorem hf32 : cFunc Tryd.prog 32 = some ⟨27, f32.erase, [(RX.t 4)]⟩ := by kernel_rfl
def f34r1 : List AI := [⟨none, (.load 20 1 false (.t 5))⟩, ⟨none, (.call (some 21) 46 [(.t 20)])⟩, ⟨none, (.mov 2 (.t 21))⟩]
theorem uf34r1 : type_of% @f34r1.eq_1 := id @f34r1.eq_1
def f34b2 : AQ := (.seq (.region f34r1) .ret)
theorem uf34b2 (P ts os Q) : awl P f34b2 Q ts os = awl P (.seq (.region f34r1) .ret) Q ts os := id rfl
def f34r3 : List AI := [⟨none, (.load 18 1 false (.t 5))⟩, ⟨none, (.call (some 19) 45 [(.t 18)])⟩]
theorem uf34r3 : type_of% @f34r3.eq_1 := id @f34r3.eq_1
def f34b4 : AQ := (.seq (.region f34r3) f34b2)
theorem uf34b4 (P ts os Q) : awl P f34b4 Q ts os = awl P (.seq (.region f34r3) f34b2) Q ts os := id rfl
def f34r5 : List AI := [⟨none, (.load 15 1 false (.t 6))⟩, ⟨none, (.load 16 3 true (.t 1))⟩, ⟨none, (.callv (some 17) (.t 15) [(.t 16)])⟩]
theorem uf34r5 : type_of% @f34r5.eq_1 := id @f34r5.eq_1
def f34b6 : AQ := (.swap 6 1006 (.swap 5 1005 (.seq (.region f34r5) f34b4)))
theorem uf34b6 (P ts os Q) : awl P f34b6 Q ts os = awl P (.swap 6 1006 (.swap 5 1005 (.seq (.region f34r5) f34b4))) Q ts os := id rfl
def f34r7 : List AI := [⟨none, (.mkfn 14 48 [(.t 5), (.t 6)])⟩, ⟨none, (.store 1 (.t 6) (.t 14))⟩]
theorem uf34r7 : type_of% @f34r7.eq_1 := id @f34r7.eq_1
def f34b8 : AQ := (.seq (.region f34r7) f34b6)
theorem uf34b8 (P ts os Q) : awl P f34b8 Q ts os = awl P (.seq (.region f34r7) f34b6) Q ts os := id rfl
def f34r9 : List AI := [⟨none, (.alloc 6 80 [.nilf])⟩]
theorem uf34r9 : type_of% @f34r9.eq_1 := id @f34r9.eq_1
def f34b10 : AQ := (.seq (.region f34r9) f34b8)
theorem uf34b10 (P ts os Q) : awl P f34b10 Q ts os = awl P (.seq (.region f34r9) f34b8) Q ts os := id rfl
def f34r11 : List AI := [⟨none, (.alloc 5 41 [(.list 0 (some true) [])])⟩]
theorem uf34r11 : type_of% @f34r11.eq_1 := id @f34r11.eq_1
def f34b12 : AQ := (.seq (.region f34r11) (.own 5 1000 3 1 f34b10))
theorem uf34b12 (P ts os Q) : awl P f34b12 Q ts os = awl P (.seq (.region f34r11) (.own 5 1000 3 1 f34b10)) Q ts os := id rfl
def f34r13 : List AI := [⟨none, (.nilL 2 3 1)⟩]
theorem uf34r13 : type_of% @f34r13.eq_1 := id @f34r13.eq_1
def f34b14 : AQ := (.seq (.region f34r13) .ret)
theorem uf34b14 (P ts os Q) : awl P f34b14 Q ts os = awl P (.seq (.region f34r13) .ret) Q ts os := id rfl
def f34b15 : AQ := (.cond (.t 13) f34b14 .skip)
theorem uf34b15 (P ts os Q) : awl P f34b15 Q ts os = awl P (.cond (.t 13) f34b14 .skip) Q ts os := id rfl
def f34r16 : List AI := [⟨none, (.mov 12 (.t 4))⟩, ⟨none, (.bin 13 .neq (.t 12) (.v (.k (.c (.int .i64 0)))))⟩]
theorem uf34r16 : type_of% @f34r16.eq_1 := id @f34r16.eq_1
def f34b17 : AQ := (.seq (.region f34r16) f34b15)
theorem uf34b17 (P ts os Q) : awl P f34b17 Q ts os = awl P (.seq (.region f34r16) f34b15) Q ts os := id rfl
def f34r18 : List AI := [⟨none, (.load 8 3 true (.t 1))⟩, ⟨none, (.call (some 9) 39 [(.t 8)])⟩, ⟨none, (.mov 7 (.t 9))⟩, ⟨none, (.extr 10 (.t 7) 0)⟩, ⟨none, (.extr 11 (.t 7) 1)⟩, ⟨none, (.mov 3 (.t 10))⟩, ⟨none, (.mov 4 (.t 11))⟩]
theorem uf34r18 : type_of% @f34r18.eq_1 := id @f34r18.eq_1
def f34b19 : AQ := (.seq (.region f34r18) f34b17)
theorem uf34b19 (P ts os Q) : awl P f34b19 Q ts os = awl P (.seq (.region f34r18) f34b17) Q ts os := id rfl
def f34b20 : AQ := (.seq f34b19 f34b12)
theorem uf34b20 (P ts os Q) : awl P f34b20 Q ts os = awl P (.seq f34b19 f34b12) Q ts os := id rfl
def f34r21 : List AI := [⟨none, (.box 1 50 (.t 0))⟩, ⟨none, (.nilL 2 3 1)⟩]
theorem uf34r21 : type_of% @f34r21.eq_1 := id @f34r21.eq_1
def f34b22 : AQ := (.seq (.region f34r21) f34b20)
theorem uf34b22 (P ts os Q) : awl P f34b22 Q ts os = awl P (.seq (.region f34r21) f34b20) Q ts os := id rfl
def f34 : AQ := f34b22
theorem uf34 (P ts os Q) : awl P f34 Q ts os = awl P f34b22 Q ts os := id rfl
theorem hf34 : cFunc Tryd.prog 34 = some ⟨22, f34.erase, [(RX.t 2)]⟩ := by kernel_rfl
theorem okf34 : f34.ok = true := by kernel_rfl
def f36r1 : List AI := [⟨none, (.mov 32 (.t 1))⟩, ⟨none, (.mov 6 (.t 32))⟩]
theorem uf36r1 : type_of% @f36r1.eq_1 := id @f36r1.eq_1
def f36b2 : AQ := (.seq (.region f36r1) .ret)
theorem uf36b2 (P ts os Q) : awl P f36b2 Q ts os = awl P (.seq (.region f36r1) .ret) Q ts os := id rfl
def f36r3 : List AI := [⟨none, (.mov 21 (.t 7))⟩, ⟨none, (.bin 22 .add (.t 21) (.v (.k (.c (.int .i64 1)))))⟩, ⟨none, (.mov 7 (.t 22))⟩]
theorem uf36r3 : type_of% @f36r3.eq_1 := id @f36r3.eq_1
def f36r4 : List AI := [⟨none, (.faddr 23 2 (.t 3))⟩, ⟨none, (.load 24 1 false (.t 23))⟩, ⟨none, (.mov 25 (.t 7))⟩, ⟨none, (.iaddr 26 3 (.t 24) (.t 25))⟩, ⟨none, (.load 27 3 true (.t 26))⟩, ⟨none, (.mov 28 (.t 1))⟩, ⟨none, (.mov 29 (.t 2))⟩, ⟨none, (.bin 30 .sub (.t 29) (.v (.k (.c (.int .i64 1)))))⟩, ⟨none, (.call (some 31) 36 [(.t 27), (.t 28), (.t 30)])⟩, ⟨none, (.mov 1 (.t 31))⟩]
theorem uf36r4 : type_of% @f36r4.eq_1 := id @f36r4.eq_1
def f36b5 : AQ := (.block 1 (.region f36r4))
theorem uf36b5 (P ts os Q) : awl P f36b5 Q ts os = awl P (.block 1 (.region f36r4)) Q ts os := id rfl
def f36b6 : AQ := (.seq f36b5 (.region f36r3))
theorem uf36b6 (P ts os Q) : awl P f36b6 Q ts os = awl P (.seq f36b5 (.region f36r3)) Q ts os := id rfl
def f36b7 : AQ := (.cond (.t 20) .skip (.exit 0))
theorem uf36b7 (P ts os Q) : awl P f36b7 Q ts os = awl P (.cond (.t 20) .skip (.exit 0)) Q ts os := id rfl
def f36r8 : List AI := [⟨none, (.mov 12 (.t 7))⟩, ⟨none, (.faddr 13 2 (.t 3))⟩, ⟨none, (.load 14 1 false (.t 13))⟩, ⟨none, (.len 15 (.t 14))⟩, ⟨none, (.bin 16 .lss (.t 12) (.t 15))⟩, ⟨none, (.mov 17 (.t 16))⟩, ⟨(some (17, true)), (.mov 18 (.t 1))⟩, ⟨(some (17, true)), (.bin 19 .geq (.t 18) (.v (.k (.c (.int .i64 0)))))⟩, ⟨none, (.pick 20 (.t 17) (.t 19) (.v (.k (.c (.bool false)))))⟩]
theorem uf36r8 : type_of% @f36r8.eq_1 := id @f36r8.eq_1
def f36b9 : AQ := (.seq (.region f36r8) f36b7)
theorem uf36b9 (P ts os Q) : awl P f36b9 Q ts os = awl P (.seq (.region f36r8) f36b7) Q ts os := id rfl
def f36b10 : AQ := (.seq f36b9 f36b6)
theorem uf36b10 (P ts os Q) : awl P f36b10 Q ts os = awl P (.seq f36b9 f36b6) Q ts os := id rfl
def f36l11 : AQ := .loop [1, 2, 3, 7] [3] f36b10
theorem uf36l11 (P ts os Q) : awl P f36l11 Q ts os = awl P (.loop [1, 2, 3, 7] [3] f36b10) Q ts os := id rfl
def f36b12 : AQ := (.block 0 f36l11)
theorem uf36b12 (P ts os Q) : awl P f36b12 Q ts os = awl P (.block 0 f36l11) Q ts os := id rfl
def f36r13 : List AI := [⟨none, (.mov 7 (.v (.k (.c (.int .i64 0)))))⟩]
theorem uf36r13 : type_of% @f36r13.eq_1 := id @f36r13.eq_1
def f36b14 : AQ := (.seq (.region f36r13) f36b12)
theorem uf36b14 (P ts os Q) : awl P f36b14 Q ts os = awl P (.seq (.region f36r13) f36b12) Q ts os := id rfl
def f36b15 : AQ := (.seq f36b14 f36b2)
theorem uf36b15 (P ts os Q) : awl P f36b15 Q ts os = awl P (.seq f36b14 f36b2) Q ts os := id rfl
def f36r16 : List AI := [⟨none, (.mov 6 (.v (.k (.c (.int .i64 (-1))))))⟩]
theorem uf36r16 : type_of% @f36r16.eq_1 := id @f36r16.eq_1
def f36b17 : AQ := (.seq (.region f36r16) .ret)
theorem uf36b17 (P ts os Q) : awl P f36b17 Q ts os = awl P (.seq (.region f36r16) .ret) Q ts os := id rfl
def f36b18 : AQ := (.cond (.t 11) f36b17 .skip)
theorem uf36b18 (P ts os Q) : awl P f36b18 Q ts os = awl P (.cond (.t 11) f36b17 .skip) Q ts os := id rfl
def f36r19 : List AI := [⟨none, (.mov 10 (.t 2))⟩, ⟨none, (.bin 11 .lss (.t 10) (.v (.k (.c (.int .i64 1)))))⟩]
theorem uf36r19 : type_of% @f36r19.eq_1 := id @f36r19.eq_1
def f36b20 : AQ := (.seq (.region f36r19) f36b18)
theorem uf36b20 (P ts os Q) : awl P f36b20 Q ts os = awl P (.seq (.region f36r19) f36b18) Q ts os := id rfl
def f36b21 : AQ := (.seq f36b20 f36b15)
theorem uf36b21 (P ts os Q) : awl P f36b21 Q ts os = awl P (.seq f36b20 f36b15) Q ts os := id rfl
def f36r22 : List AI := [⟨none, (.mov 8 (.t 1))⟩, ⟨none, (.bin 9 .sub (.t 8) (.v (.k (.c (.int .i64 1)))))⟩, ⟨none, (.mov 1 (.t 9))⟩]
theorem uf36r22 : type_of% @f36r22.eq_1 := id @f36r22.eq_1
def f36b23 : AQ := (.seq (.region f36r22) f36b21)
theorem uf36b23 (P ts os Q) : awl P f36b23 Q ts os = awl P (.seq (.region f36r22) f36b21) Q ts os := id rfl
def f36r24 : List AI := [⟨none, (.box 3 50 (.t 0))⟩, ⟨none, (.mov 6 (.v (.k (.c (.int .i64 0)))))⟩]
theorem uf36r24 : type_of% @f36r24.eq_1 := id @f36r24.eq_1
def f36b25 : AQ := (.seq (.region f36r24) f36b23)
theorem uf36b25 (P ts os Q) : awl P f36b25 Q ts os = awl P (.seq (.region f36r24) f36b23) Q ts os := id rfl
def f36 : AQ := f36b25
theorem uf36 (P ts os Q) : awl P f36 Q ts os = awl P f36b25 Q ts os := id rfl
theorem hf36 : cFunc Tryd.prog 36 = some ⟨33, f36.erase, [(RX.t 6)]⟩ := by kernel_rfl
theorem okf36 : f36.ok = true := by kernel_rfl
def f37r1 : List AI := [⟨none, (.mov 4 (.v (.k (.c (.int .i64 (-1))))))⟩]
theorem uf37r1 : type_of% @f37r1.eq_1 := id @f37r1.eq_1
def f37b2 : AQ := (.seq (.region f37r1) .ret)
theorem uf37b2 (P ts os Q) : awl P f37b2 Q ts os = awl P (.seq (.region f37r1) .ret) Q ts os := id rfl
def f37r3 : List AI := [⟨none, (.bin 18 .add (.t 8) (.v (.k (.c (.int .i64 1)))))⟩, ⟨none, (.mov 8 (.t 18))⟩]
theorem uf37r3 : type_of% @f37r3.eq_1 := id @f37r3.eq_1
def f37r4 : List AI := [⟨none, (.mov 17 (.t 5))⟩, ⟨none, (.mov 4 (.t 17))⟩]
theorem uf37r4 : type_of% @f37r4.eq_1 := id @f37r4.eq_1
def f37b5 : AQ := (.seq (.region f37r4) .ret)
theorem uf37b5 (P ts os Q) : awl P f37b5 Q ts os = awl P (.seq (.region f37r4) .ret) Q ts os := id rfl
def f37b6 : AQ := (.cond (.t 16) f37b5 .skip)
theorem uf37b6 (P ts os Q) : awl P f37b6 Q ts os = awl P (.cond (.t 16) f37b5 .skip) Q ts os := id rfl
def f37r7 : List AI := [⟨none, (.mov 11 (.t 1))⟩, ⟨none, (.mov 12 (.t 0))⟩, ⟨none, (.mov 13 (.t 5))⟩, ⟨none, (.iaddr 14 4 (.t 12) (.t 13))⟩, ⟨none, (.load 15 4 true (.t 14))⟩, ⟨none, (.callv (some 16) (.t 11) [(.t 15)])⟩]
theorem uf37r7 : type_of% @f37r7.eq_1 := id @f37r7.eq_1
def f37b8 : AQ := (.seq (.region f37r7) f37b6)
theorem uf37b8 (P ts os Q) : awl P f37b8 Q ts os = awl P (.seq (.region f37r7) f37b6) Q ts os := id rfl
def f37r9 : List AI := [⟨none, (.mov 10 (.t 8))⟩, ⟨none, (.mov 5 (.t 10))⟩]
theorem uf37r9 : type_of% @f37r9.eq_1 := id @f37r9.eq_1
def f37b10 : AQ := (.seq (.region f37r9) f37b8)
theorem uf37b10 (P ts os Q) : awl P f37b10 Q ts os = awl P (.seq (.region f37r9) f37b8) Q ts os := id rfl
def f37b11 : AQ := (.block 1 f37b10)
theorem uf37b11 (P ts os Q) : awl P f37b11 Q ts os = awl P (.block 1 f37b10) Q ts os := id rfl
def f37b12 : AQ := (.seq f37b11 (.region f37r3))
theorem uf37b12 (P ts os Q) : awl P f37b12 Q ts os = awl P (.seq f37b11 (.region f37r3)) Q ts os := id rfl
def f37b13 : AQ := (.cond (.t 9) .skip (.exit 0))
theorem uf37b13 (P ts os Q) : awl P f37b13 Q ts os = awl P (.cond (.t 9) .skip (.exit 0)) Q ts os := id rfl
def f37b14 : AQ := (.seq f37b13 f37b12)
theorem uf37b14 (P ts os Q) : awl P f37b14 Q ts os = awl P (.seq f37b13 f37b12) Q ts os := id rfl
def f37r15 : List AI := [⟨none, (.bin 9 .lss (.t 8) (.t 7))⟩]
theorem uf37r15 : type_of% @f37r15.eq_1 := id @f37r15.eq_1
def f37b16 : AQ := (.seq (.region f37r15) f37b14)
theorem uf37b16 (P ts os Q) : awl P f37b16 Q ts os = awl P (.seq (.region f37r15) f37b14) Q ts os := id rfl
def f37l17 : AQ := .loop [0, 1, 7, 8] [] f37b16
theorem uf37l17 (P ts os Q) : awl P f37l17 Q ts os = awl P (.loop [0, 1, 7, 8] [] f37b16) Q ts os := id rfl
def f37b18 : AQ := (.block 0 f37l17)
theorem uf37b18 (P ts os Q) : awl P f37b18 Q ts os = awl P (.block 0 f37l17) Q ts os := id rfl
def f37r19 : List AI := [⟨none, (.mov 6 (.t 0))⟩, ⟨none, (.len 7 (.t 6))⟩, ⟨none, (.mov 8 (.v (.k (.c (.int .i64 0)))))⟩]
theorem uf37r19 : type_of% @f37r19.eq_1 := id @f37r19.eq_1
def f37b20 : AQ := (.seq (.region f37r19) f37b18)
theorem uf37b20 (P ts os Q) : awl P f37b20 Q ts os = awl P (.seq (.region f37r19) f37b18) Q ts os := id rfl
def f37b21 : AQ := (.seq f37b20 f37b2)
theorem uf37b21 (P ts os Q) : awl P f37b21 Q ts os = awl P (.seq f37b20 f37b2) Q ts os := id rfl
def f37r22 : List AI := [⟨none, (.mov 4 (.v (.k (.c (.int .i64 0)))))⟩]
theorem uf37r22 : type_of% @f37r22.eq_1 := id @f37r22.eq_1
def f37b23 : AQ := (.seq (.region f37r22) f37b21)
theorem uf37b23 (P ts os Q) : awl P f37b23 Q ts os = awl P (.seq (.region f37r22) f37b21) Q ts os := id rfl
def f37 : AQ := f37b23
theorem uf37 (P ts os Q) : awl P f37 Q ts os = awl P f37b23 Q ts os := id rfl
theorem hf37 : cFunc Tryd.prog 37 = some ⟨19, f37.erase, [(RX.t 4)]⟩ := by kernel_rfl
theorem okf37 : f37.ok = true := by kernel_rfl
def f38r1 : List AI := [⟨none, (.faddr 4 0 (.t 2))⟩, ⟨none, (.load 5 1 false (.t 4))⟩, ⟨none, (.load 6 1 false (.t 1))⟩, ⟨none, (.bin 7 .eql (.t 5) (.t 6))⟩, ⟨none, (.mov 3 (.t 7))⟩]
theorem uf38r1 : type_of% @f38r1.eq_1 := id @f38r1.eq_1
def f38b2 : AQ := (.seq (.region f38r1) .ret)
theorem uf38b2 (P ts os Q) : awl P f38b2 Q ts os = awl P (.seq (.region f38r1) .ret) Q ts os := id rfl
def f38r3 : List AI := [⟨none, (.box 2 52 (.t 0))⟩, ⟨none, (.mov 3 (.v (.k (.c (.bool false)))))⟩]
theorem uf38r3 : type_of% @f38r3.eq_1 := id @f38r3.eq_1
def f38b4 : AQ := (.seq (.region f38r3) f38b2)
theorem uf38b4 (P ts os Q) : awl P f38b4 Q ts os = awl P (.seq (.region f38r3) f38b2) Q ts os := id rfl
def f38 : AQ := f38b4
theorem uf38 (P ts os Q) : awl P f38 Q ts os = awl P f38b4 Q ts os := id rfl
theorem hf38 : cFunc Tryd.prog 38 = some ⟨8, f38.erase, [(RX.t 3)]⟩ := by kernel_rfl
theorem okf38 : f38.ok = true := by kernel_rfl
def f39r1 : List AI := [⟨none, (.load 7 3 true (.t 1))⟩, ⟨none, (.call (some 8) 51 [(.t 7)])⟩, ⟨none, (.extr 9 (.t 8) 0)⟩, ⟨none, (.extr 10 (.t 8) 1)⟩, ⟨none, (.mov 2 (.t 9))⟩, ⟨none, (.mov 3 (.t 10))⟩]
theorem uf39r1 : type_of% @f39r1.eq_1 := id @f39r1.eq_1
def f39b2 : AQ := (.seq (.region f39r1) .ret)
theorem uf39b2 (P ts os Q) : awl P f39b2 Q ts os = awl P (.seq (.region f39r1) .ret) Q ts os := id rfl
def f39r3 : List AI := [⟨none, (.mov 2 (.v (.k (.c (.int .i64 0)))))⟩, ⟨none, (.mov 3 (.v (.k (.c (.int .i64 6)))))⟩]
theorem uf39r3 : type_of% @f39r3.eq_1 := id @f39r3.eq_1
def f39b4 : AQ := (.seq (.region f39r3) .ret)
theorem uf39b4 (P ts os Q) : awl P f39b4 Q ts os = awl P (.seq (.region f39r3) .ret) Q ts os := id rfl
def f39b5 : AQ := (.cond (.t 6) f39b4 .skip)
theorem uf39b5 (P ts os Q) : awl P f39b5 Q ts os = awl P (.cond (.t 6) f39b4 .skip) Q ts os := id rfl
def f39r6 : List AI := [⟨none, (.load 4 3 true (.t 1))⟩, ⟨none, (.call (some 5) 50 [(.t 4), (.v (.k (.c (.int .i64 1))))])⟩, ⟨none, (.bin 6 .gtr (.t 5) (.v (.k (.c (.int .i64 60)))))⟩]
theorem uf39r6 : type_of% @f39r6.eq_1 := id @f39r6.eq_1
def f39b7 : AQ := (.seq (.region f39r6) f39b5)
theorem uf39b7 (P ts os Q) : awl P f39b7 Q ts os = awl P (.seq (.region f39r6) f39b5) Q ts os := id rfl
def f39b8 : AQ := (.seq f39b7 f39b2)
theorem uf39b8 (P ts os Q) : awl P f39b8 Q ts os = awl P (.seq f39b7 f39b2) Q ts os := id rfl
def f39r9 : List AI := [⟨none, (.box 1 50 (.t 0))⟩, ⟨none, (.mov 2 (.v (.k (.c (.int .i64 0)))))⟩, ⟨none, (.mov 3 (.v (.k (.c (.int .i64 0)))))⟩]
theorem uf39r9 : type_of% @f39r9.eq_1 := id @f39r9.eq_1
def f39b10 : AQ := (.seq (.region f39r9) f39b8)
theorem uf39b10 (P ts os Q) : awl P f39b10 Q ts os = awl P (.seq (.region f39r9) f39b8) Q ts os := id rfl
def f39 : AQ := f39b10
theorem uf39 (P ts os Q) : awl P f39 Q ts os = awl P f39b10 Q ts os := id rfl
theorem hf39 : cFunc Tryd.prog 39 = some ⟨11, f39.erase, [(RX.t 2), (RX.t 3)]⟩ := by kernel_rfl
theorem okf39 : f39.ok = true := by kernel_rfl
def f40r1 : List AI := [⟨none, (.build 92 [(.bool false), (.int .i64 0)] [])⟩, ⟨none, (.mov 93 (.t 8))⟩, ⟨none, (.call (some 94) 54 [(.t 93)])⟩, ⟨none, (.store 2 (.t 4) (.t 92))⟩, ⟨none, (.mov 5 (.t 94))⟩]
theorem uf40r1 : type_of% @f40r1.eq_1 := id @f40r1.eq_1
def f40b2 : AQ := (.seq (.region f40r1) .ret)
theorem uf40b2 (P ts os Q) : awl P f40b2 Q ts os = awl P (.seq (.region f40r1) .ret) Q ts os := id rfl
def f40r3 : List AI := [⟨none, (.load 91 2 true (.t 12))⟩, ⟨none, (.store 2 (.t 4) (.t 91))⟩, ⟨none, (.nilL 5 3 1)⟩]
theorem uf40r3 : type_of% @f40r3.eq_1 := id @f40r3.eq_1
def f40b4 : AQ := (.seq (.region f40r3) .ret)
theorem uf40b4 (P ts os Q) : awl P f40b4 Q ts os = awl P (.seq (.region f40r3) .ret) Q ts os := id rfl
def f40b5 : AQ := (.cond (.t 90) f40b4 .skip)
theorem uf40b5 (P ts os Q) : awl P f40b5 Q ts os = awl P (.cond (.t 90) f40b4 .skip) Q ts os := id rfl
def f40r6 : List AI := [⟨none, (.faddr 89 0 (.t 12))⟩, ⟨none, (.load 90 1 false (.t 89))⟩]
theorem uf40r6 : type_of% @f40r6.eq_1 := id @f40r6.eq_1
def f40b7 : AQ := (.seq (.region f40r6) f40b5)
theorem uf40b7 (P ts os Q) : awl P f40b7 Q ts os = awl P (.seq (.region f40r6) f40b5) Q ts os := id rfl
def f40r8 : List AI := [⟨none, (.faddr 85 0 (.t 3))⟩, ⟨none, (.load 86 1 false (.t 85))⟩, ⟨none, (.mov 87 (.t 7))⟩, ⟨none, (.call (some 88) 53 [(.t 86), (.t 87)])⟩, ⟨none, (.alloc 12 30 [(.bool false), (.int .i64 0)])⟩, ⟨none, (.store 2 (.t 12) (.t 88))⟩]
theorem uf40r8 : type_of% @f40r8.eq_1 := id @f40r8.eq_1
def f40b9 : AQ := (.seq (.region f40r8) f40b7)
theorem uf40b9 (P ts os Q) : awl P f40b9 Q ts os = awl P (.seq (.region f40r8) f40b7) Q ts os := id rfl
def f40b10 : AQ := (.seq f40b9 f40b2)
theorem uf40b10 (P ts os Q) : awl P f40b10 Q ts os = awl P (.seq f40b9 f40b2) Q ts os := id rfl
def f40r11o0 : AI := ⟨none, (.mov 77 (.t 7))⟩
theorem uf40r11o0 : f40r11o0 = ⟨none, (.mov 77 (.t 7))⟩ := id rfl
def f40r11o1 : AI := ⟨none, (.mov 78 (.t 11))⟩
theorem uf40r11o1 : f40r11o1 = ⟨none, (.mov 78 (.t 11))⟩ := id rfl
def f40r11o2 : AI := ⟨none, (.iaddr 79 2 (.t 77) (.t 78))⟩
theorem uf40r11o2 : f40r11o2 = ⟨none, (.iaddr 79 2 (.t 77) (.t 78))⟩ := id rfl
def f40r11o3 : AI := ⟨none, (.load 80 2 true (.t 79))⟩
theorem uf40r11o3 : f40r11o3 = ⟨none, (.load 80 2 true (.t 79))⟩ := id rfl
def f40r11o4 : AI := ⟨none, (.mov 81 (.t 8))⟩
theorem uf40r11o4 : f40r11o4 = ⟨none, (.mov 81 (.t 8))⟩ := id rfl
def f40r11o5 : AI := ⟨none, (.mov 82 (.t 11))⟩
theorem uf40r11o5 : f40r11o5 = ⟨none, (.mov 82 (.t 11))⟩ := id rfl
def f40r11o6 : AI := ⟨none, (.iaddr 83 1 (.t 81) (.t 82))⟩
theorem uf40r11o6 : f40r11o6 = ⟨none, (.iaddr 83 1 (.t 81) (.t 82))⟩ := id rfl
def f40r11o7 : AI := ⟨none, (.load 84 1 false (.t 83))⟩
theorem uf40r11o7 : f40r11o7 = ⟨none, (.load 84 1 false (.t 83))⟩ := id rfl
def f40r11o8 : AI := ⟨none, (.store 2 (.t 4) (.t 80))⟩
theorem uf40r11o8 : f40r11o8 = ⟨none, (.store 2 (.t 4) (.t 80))⟩ := id rfl
def f40r11o9 : AI := ⟨none, (.mov 5 (.t 84))⟩
theorem uf40r11o9 : f40r11o9 = ⟨none, (.mov 5 (.t 84))⟩ := id rfl
def f40r11 : List AI := [f40r11o0, f40r11o1, f40r11o2, f40r11o3, f40r11o4, f40r11o5, f40r11o6, f40r11o7, f40r11o8, f40r11o9]
theorem utf40r11 : treeOf f40r11 [[], [], [0, 1], [2], [], [], [4, 5], [6], [3, 0, 1, 2, 3], [7, 8, 0, 1, 2, 3, 4, 5, 6, 7, 8]] = (.one f40r11o0 (.one f40r11o1 (.one f40r11o2 (.one f40r11o3 (.alt (.one f40r11o4 (.alt (.one f40r11o5 (.alt (.one f40r11o6 (.alt (.one f40r11o7 (.one f40r11o8 (.one f40r11o9 .done))) (.alt (.one f40r11o8 (.one f40r11o7 (.one f40r11o9 .done))) .top))) (.alt (.one f40r11o8 (.one f40r11o6 (.one f40r11o7 (.one f40r11o9 .done)))) .top))) (.alt (.one f40r11o8 (.one f40r11o5 (.one f40r11o6 (.one f40r11o7 (.one f40r11o9 .done))))) .top))) (.alt (.one f40r11o5 (.alt (.one f40r11o4 (.alt (.one f40r11o6 (.alt (.one f40r11o7 (.one f40r11o8 (.one f40r11o9 .done))) (.alt (.one f40r11o8 (.one f40r11o7 (.one f40r11o9 .done))) .top))) (.alt (.one f40r11o8 (.one f40r11o6 (.one f40r11o7 (.one f40r11o9 .done)))) .top))) (.alt (.one f40r11o8 (.one f40r11o4 (.one f40r11o6 (.one f40r11o7 (.one f40r11o9 .done))))) .top))) (.alt (.one f40r11o8 (.one f40r11o4 (.one f40r11o5 (.one f40r11o6 (.one f40r11o7 (.one f40r11o9 .done)))))) .top))))))) := by kernel_rfl
def f40b12 : AQ := (.seq (.tree f40r11 [[], [], [0, 1], [2], [], [], [4, 5], [6], [3, 0, 1, 2, 3], [7, 8, 0, 1, 2, 3, 4, 5, 6, 7, 8]]) (.keep [4, 5] [4, 5, 26, 33, 37, 41, 57, 88, 94, 27000, 27001, 27002, 58000, 58001, 58002, 89000, 89001, 89002, 95000, 95001, 95002] .ret))
theorem uf40b12 (P ts os Q) : awl P f40b12 Q ts os = awl P (.seq (.tree f40r11 [[], [], [0, 1], [2], [], [], [4, 5], [6], [3, 0, 1, 2, 3], [7, 8, 0, 1, 2, 3, 4, 5, 6, 7, 8]]) (.keep [4, 5] [4, 5, 26, 33, 37, 41, 57, 88, 94, 27000, 27001, 27002, 58000, 58001, 58002, 89000, 89001, 89002, 95000, 95001, 95002] .ret)) Q ts os := id rfl
def f40r13 : List AI := [⟨none, (.mov 72 (.t 7))⟩, ⟨none, (.iaddr 73 2 (.t 72) (.v (.k (.c (.int .i64 0)))))⟩, ⟨none, (.faddr 74 1 (.t 73))⟩, ⟨none, (.load 75 1 false (.t 74))⟩, ⟨none, (.bin 76 .sub (.v (.k (.c (.int .i64 2)))) (.t 75))⟩, ⟨none, (.mov 11 (.t 76))⟩]
theorem uf40r13 : type_of% @f40r13.eq_1 := id @f40r13.eq_1
def f40b14 : AQ := (.seq (.region f40r13) f40b12)
theorem uf40b14 (P ts os Q) : awl P f40b14 Q ts os = awl P (.seq (.region f40r13) f40b12) Q ts os := id rfl
def f40b15 : AQ := (.cond (.t 71) f40b14 .skip)
theorem uf40b15 (P ts os Q) : awl P f40b15 Q ts os = awl P (.cond (.t 71) f40b14 .skip) Q ts os := id rfl
def f40r16 : List AI := [⟨none, (.faddr 63 0 (.t 3))⟩, ⟨none, (.load 64 1 false (.t 63))⟩, ⟨none, (.bin 65 .eql (.t 64) (.v (.k (.c (.int .i64 6)))))⟩, ⟨none, (.mov 66 (.t 65))⟩, ⟨(some (66, true)), (.mov 67 (.t 7))⟩, ⟨(some (66, true)), (.iaddr 68 2 (.t 67) (.v (.k (.c (.int .i64 0)))))⟩, ⟨(some (66, true)), (.faddr 69 0 (.t 68))⟩, ⟨(some (66, true)), (.load 70 1 false (.t 69))⟩, ⟨none, (.pick 71 (.t 66) (.t 70) (.v (.k (.c (.bool false)))))⟩]
theorem uf40r16 : type_of% @f40r16.eq_1 := id @f40r16.eq_1
def f40b17 : AQ := (.seq (.region f40r16) f40b15)
theorem uf40b17 (P ts os Q) : awl P f40b17 Q ts os = awl P (.seq (.region f40r16) f40b15) Q ts os := id rfl
def f40b18 : AQ := (.seq f40b17 f40b10)
theorem uf40b18 (P ts os Q) : awl P f40b18 Q ts os = awl P (.seq f40b17 f40b10) Q ts os := id rfl
def f40r19 : List AI := [⟨none, (.bin 62 .add (.t 45) (.v (.k (.c (.int .i64 1)))))⟩, ⟨none, (.mov 45 (.t 62))⟩]
theorem uf40r19 : type_of% @f40r19.eq_1 := id @f40r19.eq_1
def f40r20 : List AI := [⟨none, (.mov 51 (.t 7))⟩, ⟨none, (.mov 52 (.t 9))⟩, ⟨none, (.mov 53 (.t 8))⟩, ⟨none, (.mov 54 (.t 9))⟩, ⟨none, (.load 55 1 true (.t 2))⟩, ⟨none, (.load 56 3 true (.t 10))⟩, ⟨none, (.call (some 57) 40 [(.t 55), (.t 56)])⟩, ⟨none, (.mov 50 (.t 57))⟩, ⟨none, (.extr 58 (.t 50) 0)⟩, ⟨none, (.extr 59 (.t 50) 1)⟩, ⟨none, (.iaddr 60 2 (.t 51) (.t 52))⟩, ⟨none, (.store 2 (.t 60) (.t 58))⟩, ⟨none, (.iaddr 61 1 (.t 53) (.t 54))⟩, ⟨none, (.store 1 (.t 61) (.t 59))⟩]
theorem uf40r20 : type_of% @f40r20.eq_1 := id @f40r20.eq_1
def f40r21 : List AI := [⟨none, (.mov 47 (.t 45))⟩, ⟨none, (.iaddr 48 3 (.t 43) (.t 45))⟩, ⟨none, (.load 49 3 true (.t 48))⟩, ⟨none, (.alloc 10 50 [(.int .i64 0), (.int .i64 0), (.list 0 (some true) [])])⟩, ⟨none, (.mov 9 (.t 47))⟩, ⟨none, (.store 3 (.t 10) (.t 49))⟩]
theorem uf40r21 : type_of% @f40r21.eq_1 := id @f40r21.eq_1
def f40b22 : AQ := (.seq (.region f40r21) (.region f40r20))
theorem uf40b22 (P ts os Q) : awl P f40b22 Q ts os = awl P (.seq (.region f40r21) (.region f40r20)) Q ts os := id rfl
def f40b23 : AQ := (.block 2 f40b22)
theorem uf40b23 (P ts os Q) : awl P f40b23 Q ts os = awl P (.block 2 f40b22) Q ts os := id rfl
def f40b24 : AQ := (.seq f40b23 (.region f40r19))
theorem uf40b24 (P ts os Q) : awl P f40b24 Q ts os = awl P (.seq f40b23 (.region f40r19)) Q ts os := id rfl
def f40b25 : AQ := (.cond (.t 46) .skip (.exit 1))
theorem uf40b25 (P ts os Q) : awl P f40b25 Q ts os = awl P (.cond (.t 46) .skip (.exit 1)) Q ts os := id rfl
def f40b26 : AQ := (.seq f40b25 f40b24)
theorem uf40b26 (P ts os Q) : awl P f40b26 Q ts os = awl P (.seq f40b25 f40b24) Q ts os := id rfl
def f40r27 : List AI := [⟨none, (.bin 46 .lss (.t 45) (.t 44))⟩]
theorem uf40r27 : type_of% @f40r27.eq_1 := id @f40r27.eq_1
def f40b28 : AQ := (.seq (.region f40r27) f40b26)
theorem uf40b28 (P ts os Q) : awl P f40b28 Q ts os = awl P (.seq (.region f40r27) f40b26) Q ts os := id rfl
def f40l29 : AQ := .loop [2, 3, 4, 7, 8, 43, 44, 45] [2, 3, 4, 26, 37, 41, 57, 88, 27000, 27001, 27002, 58000, 58001, 58002, 89000, 89001, 89002] f40b28
theorem uf40l29 (P ts os Q) : awl P f40l29 Q ts os = awl P (.loop [2, 3, 4, 7, 8, 43, 44, 45] [2, 3, 4, 26, 37, 41, 57, 88, 27000, 27001, 27002, 58000, 58001, 58002, 89000, 89001, 89002] f40b28) Q ts os := id rfl
def f40b30 : AQ := (.block 1 f40l29)
theorem uf40b30 (P ts os Q) : awl P f40b30 Q ts os = awl P (.block 1 f40l29) Q ts os := id rfl
def f40r31 : List AI := [⟨none, (.faddr 42 2 (.t 3))⟩, ⟨none, (.load 43 1 false (.t 42))⟩, ⟨none, (.len 44 (.t 43))⟩, ⟨none, (.mov 45 (.v (.k (.c (.int .i64 0)))))⟩]
theorem uf40r31 : type_of% @f40r31.eq_1 := id @f40r31.eq_1
def f40b32 : AQ := (.seq (.region f40r31) f40b30)
theorem uf40b32 (P ts os Q) : awl P f40b32 Q ts os = awl P (.seq (.region f40r31) f40b30) Q ts os := id rfl
def f40b33 : AQ := (.seq f40b32 (.frz 41 (.frz 37 f40b18)))
theorem uf40b33 (P ts os Q) : awl P f40b33 Q ts os = awl P (.seq f40b32 (.frz 41 (.frz 37 f40b18))) Q ts os := id rfl
def f40r34 : List AI := [⟨none, (.faddr 38 2 (.t 3))⟩, ⟨none, (.load 39 1 false (.t 38))⟩, ⟨none, (.len 40 (.t 39))⟩, ⟨none, (.mkslice 41 41 1 24 [(.list 0 (some true) [])] (.t 40) (.t 40))⟩, ⟨none, (.mov 8 (.t 41))⟩]
theorem uf40r34 : type_of% @f40r34.eq_1 := id @f40r34.eq_1
def f40b35 : AQ := (.seq (.region f40r34) f40b33)
theorem uf40b35 (P ts os Q) : awl P f40b35 Q ts os = awl P (.seq (.region f40r34) f40b33) Q ts os := id rfl
def f40r36 : List AI := [⟨none, (.faddr 34 2 (.t 3))⟩, ⟨none, (.load 35 1 false (.t 34))⟩, ⟨none, (.len 36 (.t 35))⟩, ⟨none, (.mkslice 37 30 2 16 [(.bool false), (.int .i64 0)] (.t 36) (.t 36))⟩, ⟨none, (.mov 7 (.t 37))⟩]
theorem uf40r36 : type_of% @f40r36.eq_1 := id @f40r36.eq_1
def f40b37 : AQ := (.seq (.region f40r36) f40b35)
theorem uf40b37 (P ts os Q) : awl P f40b37 Q ts os = awl P (.seq (.region f40r36) f40b35) Q ts os := id rfl
def f40r38 : List AI := [⟨none, (.faddr 18 1 (.t 3))⟩, ⟨none, (.load 19 1 false (.t 18))⟩, ⟨none, (.build 20 [(.bool false), (.int .i64 0)] [(0, (1, (.v (.k (.c (.bool true)))))), (1, (1, (.t 19)))])⟩, ⟨none, (.store 2 (.t 4) (.t 20))⟩, ⟨none, (.nilL 5 3 1)⟩]
theorem uf40r38 : type_of% @f40r38.eq_1 := id @f40r38.eq_1
def f40b39 : AQ := (.seq (.region f40r38) .ret)
theorem uf40b39 (P ts os Q) : awl P f40b39 Q ts os = awl P (.seq (.region f40r38) .ret) Q ts os := id rfl
def f40r40o0 : AI := ⟨none, (.build 30 [(.bool false), (.int .i64 0)] [])⟩
theorem uf40r40o0 : f40r40o0 = ⟨none, (.build 30 [(.bool false), (.int .i64 0)] [])⟩ := id rfl
def f40r40o1 : AI := ⟨none, (.faddr 31 1 (.t 3))⟩
theorem uf40r40o1 : f40r40o1 = ⟨none, (.faddr 31 1 (.t 3))⟩ := id rfl
def f40r40o2 : AI := ⟨none, (.load 32 1 false (.t 31))⟩
theorem uf40r40o2 : f40r40o2 = ⟨none, (.load 32 1 false (.t 31))⟩ := id rfl
def f40r40o3 : AI := ⟨none, (.bslice 33 3 1 [(.int .i64 0)] 1 [(0, (.t 32))])⟩
theorem uf40r40o3 : f40r40o3 = ⟨none, (.bslice 33 3 1 [(.int .i64 0)] 1 [(0, (.t 32))])⟩ := id rfl
def f40r40o4 : AI := ⟨none, (.store 2 (.t 4) (.t 30))⟩
theorem uf40r40o4 : f40r40o4 = ⟨none, (.store 2 (.t 4) (.t 30))⟩ := id rfl
def f40r40o5 : AI := ⟨none, (.mov 5 (.t 33))⟩
theorem uf40r40o5 : f40r40o5 = ⟨none, (.mov 5 (.t 33))⟩ := id rfl
def f40r40 : List AI := [f40r40o0, f40r40o1, f40r40o2, f40r40o3, f40r40o4, f40r40o5]
theorem utf40r40 : treeOf f40r40 [[], [], [1], [2], [0, 0], [3, 4, 0, 1, 2, 3, 4]] = (.one f40r40o0 (.alt (.one f40r40o1 (.alt (.one f40r40o2 (.alt (.one f40r40o3 (.one f40r40o4 (.one f40r40o5 .done))) (.alt (.one f40r40o4 (.one f40r40o3 (.one f40r40o5 .done))) .top))) (.alt (.one f40r40o4 (.one f40r40o2 (.one f40r40o3 (.one f40r40o5 .done)))) .top))) (.alt (.one f40r40o4 (.one f40r40o1 (.one f40r40o2 (.one f40r40o3 (.one f40r40o5 .done))))) .top))) := by kernel_rfl
def f40b41 : AQ := (.seq (.tree f40r40 [[], [], [1], [2], [0, 0], [3, 4, 0, 1, 2, 3, 4]]) (.keep [4, 5] [4, 5, 26, 33, 37, 41, 57, 88, 94, 27000, 27001, 27002, 58000, 58001, 58002, 89000, 89001, 89002, 95000, 95001, 95002] .ret))
theorem uf40b41 (P ts os Q) : awl P f40b41 Q ts os = awl P (.seq (.tree f40r40 [[], [], [1], [2], [0, 0], [3, 4, 0, 1, 2, 3, 4]]) (.keep [4, 5] [4, 5, 26, 33, 37, 41, 57, 88, 94, 27000, 27001, 27002, 58000, 58001, 58002, 89000, 89001, 89002, 95000, 95001, 95002] .ret)) Q ts os := id rfl
def f40r42 : List AI := [⟨none, (.load 29 2 true (.t 6))⟩, ⟨none, (.store 2 (.t 4) (.t 29))⟩, ⟨none, (.nilL 5 3 1)⟩]
theorem uf40r42 : type_of% @f40r42.eq_1 := id @f40r42.eq_1
def f40b43 : AQ := (.seq (.region f40r42) .ret)
theorem uf40b43 (P ts os Q) : awl P f40b43 Q ts os = awl P (.seq (.region f40r42) .ret) Q ts os := id rfl
def f40b44 : AQ := (.cond (.t 28) f40b43 .skip)
theorem uf40b44 (P ts os Q) : awl P f40b44 Q ts os = awl P (.cond (.t 28) f40b43 .skip) Q ts os := id rfl
def f40r45 : List AI := [⟨none, (.faddr 27 0 (.t 6))⟩, ⟨none, (.load 28 1 false (.t 27))⟩]
theorem uf40r45 : type_of% @f40r45.eq_1 := id @f40r45.eq_1
def f40b46 : AQ := (.seq (.region f40r45) f40b44)
theorem uf40b46 (P ts os Q) : awl P f40b46 Q ts os = awl P (.seq (.region f40r45) f40b44) Q ts os := id rfl
def f40r47 : List AI := [⟨none, (.load 23 1 true (.t 2))⟩, ⟨none, (.faddr 24 1 (.t 3))⟩, ⟨none, (.load 25 1 false (.t 24))⟩, ⟨none, (.call (some 26) 52 [(.t 23), (.t 25)])⟩, ⟨none, (.alloc 6 30 [(.bool false), (.int .i64 0)])⟩, ⟨none, (.store 2 (.t 6) (.t 26))⟩]
theorem uf40r47 : type_of% @f40r47.eq_1 := id @f40r47.eq_1
def f40b48 : AQ := (.seq (.region f40r47) f40b46)
theorem uf40b48 (P ts os Q) : awl P f40b48 Q ts os = awl P (.seq (.region f40r47) f40b46) Q ts os := id rfl
def f40b49 : AQ := (.seq f40b48 f40b41)
theorem uf40b49 (P ts os Q) : awl P f40b49 Q ts os = awl P (.seq f40b48 f40b41) Q ts os := id rfl
def f40b50 : AQ := (.cond (.t 21) f40b49 .skip)
theorem uf40b50 (P ts os Q) : awl P f40b50 Q ts os = awl P (.cond (.t 21) f40b49 .skip) Q ts os := id rfl
def f40r51 : List AI := [⟨none, (.bin 22 .eql (.t 14) (.v (.k (.c (.int .i64 2)))))⟩, ⟨none, (.mov 21 (.t 22))⟩]
theorem uf40r51 : type_of% @f40r51.eq_1 := id @f40r51.eq_1
def f40b52 : AQ := (.seq (.region f40r51) f40b50)
theorem uf40b52 (P ts os Q) : awl P f40b52 Q ts os = awl P (.seq (.region f40r51) f40b50) Q ts os := id rfl
def f40b53 : AQ := (.cond (.t 15) f40b39 f40b52)
theorem uf40b53 (P ts os Q) : awl P f40b53 Q ts os = awl P (.cond (.t 15) f40b39 f40b52) Q ts os := id rfl
def f40r54 : List AI := [⟨none, (.bin 17 .eql (.t 14) (.v (.k (.c (.int .i64 1)))))⟩, ⟨none, (.mov 15 (.t 17))⟩]
theorem uf40r54 : type_of% @f40r54.eq_1 := id @f40r54.eq_1
def f40b55 : AQ := (.cond (.t 15) .skip (.region f40r54))
theorem uf40b55 (P ts os Q) : awl P f40b55 Q ts os = awl P (.cond (.t 15) .skip (.region f40r54)) Q ts os := id rfl
def f40r56 : List AI := [⟨none, (.bin 16 .eql (.t 14) (.v (.k (.c (.int .i64 0)))))⟩, ⟨none, (.mov 15 (.t 16))⟩]
theorem uf40r56 : type_of% @f40r56.eq_1 := id @f40r56.eq_1
def f40b57 : AQ := (.seq (.region f40r56) f40b55)
theorem uf40b57 (P ts os Q) : awl P f40b57 Q ts os = awl P (.seq (.region f40r56) f40b55) Q ts os := id rfl
def f40b58 : AQ := (.seq f40b57 f40b53)
theorem uf40b58 (P ts os Q) : awl P f40b58 Q ts os = awl P (.seq f40b57 f40b53) Q ts os := id rfl
def f40b59 : AQ := (.block 0 f40b58)
theorem uf40b59 (P ts os Q) : awl P f40b59 Q ts os = awl P (.block 0 f40b58) Q ts os := id rfl
def f40r60 : List AI := [⟨none, (.faddr 13 0 (.t 3))⟩, ⟨none, (.load 14 1 false (.t 13))⟩]
theorem uf40r60 : type_of% @f40r60.eq_1 := id @f40r60.eq_1
def f40b61 : AQ := (.seq (.region f40r60) f40b59)
theorem uf40b61 (P ts os Q) : awl P f40b61 Q ts os = awl P (.seq (.region f40r60) f40b59) Q ts os := id rfl
def f40b62 : AQ := (.seq f40b61 f40b37)
theorem uf40b62 (P ts os Q) : awl P f40b62 Q ts os = awl P (.seq f40b61 f40b37) Q ts os := id rfl
def f40r63 : List AI := [⟨none, (.box 2 73 (.t 0))⟩, ⟨none, (.box 3 50 (.t 1))⟩, ⟨none, (.alloc 4 30 [(.bool false), (.int .i64 0)])⟩, ⟨none, (.nilL 5 3 1)⟩]
theorem uf40r63 : type_of% @f40r63.eq_1 := id @f40r63.eq_1
def f40b64 : AQ := (.seq (.region f40r63) f40b62)
theorem uf40b64 (P ts os Q) : awl P f40b64 Q ts os = awl P (.seq (.region f40r63) f40b62) Q ts os := id rfl
def f40 : AQ := f40b64
theorem uf40 (P ts os Q) : awl P f40 Q ts os = awl P f40b64 Q ts os := id rfl
theorem hf40 : cFunc Tryd.prog 40 = some ⟨95, f40.erase, [(RX.cell 4 2 true), (RX.t 5)]⟩ := by kernel_rfl
theorem okf40 : f40.ok = true := by kernel_rfl
def f48r1 : List AI := [⟨none, (.bin 24 .add (.t 17) (.v (.k (.c (.int .i64 1)))))⟩, ⟨none, (.mov 17 (.t 24))⟩]
theorem uf48r1 : type_of% @f48r1.eq_1 := id @f48r1.eq_1
def f48r2 : List AI := [⟨none, (.load 21 1 false (.t 2))⟩, ⟨none, (.load 22 3 true (.t 5))⟩, ⟨none, (.callv (some 23) (.t 21) [(.t 22)])⟩]
theorem uf48r2 : type_of% @f48r2.eq_1 := id @f48r2.eq_1
def f48r3 : List AI := [⟨none, (.iaddr 19 3 (.t 15) (.t 17))⟩, ⟨none, (.load 20 3 true (.t 19))⟩, ⟨none, (.alloc 5 50 [(.int .i64 0), (.int .i64 0), (.list 0 (some true) [])])⟩, ⟨none, (.store 3 (.t 5) (.t 20))⟩]
theorem uf48r3 : type_of% @f48r3.eq_1 := id @f48r3.eq_1
def f48b4 : AQ := (.seq (.region f48r3) (.region f48r2))
theorem uf48b4 (P ts os Q) : awl P f48b4 Q ts os = awl P (.seq (.region f48r3) (.region f48r2)) Q ts os := id rfl
def f48b5 : AQ := (.block 1 f48b4)
theorem uf48b5 (P ts os Q) : awl P f48b5 Q ts os = awl P (.block 1 f48b4) Q ts os := id rfl
def f48b6 : AQ := (.seq f48b5 (.region f48r1))
theorem uf48b6 (P ts os Q) : awl P f48b6 Q ts os = awl P (.seq f48b5 (.region f48r1)) Q ts os := id rfl
def f48b7 : AQ := (.cond (.t 18) .skip (.exit 0))
theorem uf48b7 (P ts os Q) : awl P f48b7 Q ts os = awl P (.cond (.t 18) .skip (.exit 0)) Q ts os := id rfl
def f48b8 : AQ := (.seq f48b7 f48b6)
theorem uf48b8 (P ts os Q) : awl P f48b8 Q ts os = awl P (.seq f48b7 f48b6) Q ts os := id rfl
def f48r9 : List AI := [⟨none, (.bin 18 .lss (.t 17) (.t 16))⟩]
theorem uf48r9 : type_of% @f48r9.eq_1 := id @f48r9.eq_1
def f48b10 : AQ := (.seq (.region f48r9) f48b8)
theorem uf48b10 (P ts os Q) : awl P f48b10 Q ts os = awl P (.seq (.region f48r9) f48b8) Q ts os := id rfl
def f48l11 : AQ := .loop [1, 2, 15, 16, 17] [1000, 1005, 1006] f48b10
theorem uf48l11 (P ts os Q) : awl P f48l11 Q ts os = awl P (.loop [1, 2, 15, 16, 17] [1000, 1005, 1006] f48b10) Q ts os := id rfl
def f48b12 : AQ := (.block 0 f48l11)
theorem uf48b12 (P ts os Q) : awl P f48b12 Q ts os = awl P (.block 0 f48l11) Q ts os := id rfl
def f48r13 : List AI := [⟨none, (.faddr 14 2 (.t 3))⟩, ⟨none, (.load 15 1 false (.t 14))⟩, ⟨none, (.len 16 (.t 15))⟩, ⟨none, (.mov 17 (.v (.k (.c (.int .i64 0)))))⟩]
theorem uf48r13 : type_of% @f48r13.eq_1 := id @f48r13.eq_1
def f48b14 : AQ := (.seq (.region f48r13) f48b12)
theorem uf48b14 (P ts os Q) : awl P f48b14 Q ts os = awl P (.seq (.region f48r13) f48b12) Q ts os := id rfl
def f48r15 : List AI := [⟨none, (.load 9 1 false (.t 1))⟩, ⟨none, (.faddr 10 1 (.t 3))⟩, ⟨none, (.load 11 1 false (.t 10))⟩, ⟨none, (.bslice 12 3 1 [(.int .i64 0)] 1 [(0, (.t 11))])⟩, ⟨none, (.append 13 3 1 8 (.t 9) (.t 12))⟩, ⟨none, (.store 1 (.t 1) (.t 13))⟩]
theorem uf48r15 : type_of% @f48r15.eq_1 := id @f48r15.eq_1
def f48b16 : AQ := (.cond (.t 8) (.region f48r15) .skip)
theorem uf48b16 (P ts os Q) : awl P f48b16 Q ts os = awl P (.cond (.t 8) (.region f48r15) .skip) Q ts os := id rfl
def f48r17 : List AI := [⟨none, (.faddr 6 0 (.t 3))⟩, ⟨none, (.load 7 1 false (.t 6))⟩, ⟨none, (.bin 8 .eql (.t 7) (.v (.k (.c (.int .i64 2)))))⟩]
theorem uf48r17 : type_of% @f48r17.eq_1 := id @f48r17.eq_1
def f48b18 : AQ := (.seq (.region f48r17) f48b16)
theorem uf48b18 (P ts os Q) : awl P f48b18 Q ts os = awl P (.seq (.region f48r17) f48b16) Q ts os := id rfl
def f48b19 : AQ := (.seq f48b18 f48b14)
theorem uf48b19 (P ts os Q) : awl P f48b19 Q ts os = awl P (.seq f48b18 f48b14) Q ts os := id rfl
def f48r20 : List AI := [⟨none, (.box 3 50 (.t 0))⟩]
theorem uf48r20 : type_of% @f48r20.eq_1 := id @f48r20.eq_1
def f48b21 : AQ := (.seq (.region f48r20) f48b19)
theorem uf48b21 (P ts os Q) : awl P f48b21 Q ts os = awl P (.seq (.region f48r20) f48b19) Q ts os := id rfl
def f48 : AQ := f48b21
theorem uf48 (P ts os Q) : awl P f48 Q ts os = awl P f48b21 Q ts os := id rfl
theorem hf48 : cFunc Tryd.prog 48 = some ⟨25, f48.erase, []⟩ := by kernel_rfl
theorem okf48 : f48.ok = true := by kernel_rfl
def f50r1 : List AI := [⟨none, (.mov 26 (.t 5))⟩, ⟨none, (.mov 4 (.t 26))⟩]
theorem uf50r1 : type_of% @f50r1.eq_1 := id @f50r1.eq_1
def f50b2 : AQ := (.seq (.region f50r1) .ret)
theorem uf50b2 (P ts os Q) : awl P f50b2 Q ts os = awl P (.seq (.region f50r1) .ret) Q ts os := id rfl
def f50r3 : List AI := [⟨none, (.bin 25 .add (.t 13) (.v (.k (.c (.int .i64 1)))))⟩, ⟨none, (.mov 13 (.t 25))⟩]
theorem uf50r3 : type_of% @f50r3.eq_1 := id @f50r3.eq_1
def f50b4 : AQ := (.cond (.t 24) (.exit 0) .skip)
theorem uf50b4 (P ts os Q) : awl P f50b4 Q ts os = awl P (.cond (.t 24) (.exit 0) .skip) Q ts os := id rfl
def f50r5 : List AI := [⟨none, (.mov 23 (.t 5))⟩, ⟨none, (.bin 24 .gtr (.t 23) (.v (.k (.c (.int .i64 60)))))⟩]
theorem uf50r5 : type_of% @f50r5.eq_1 := id @f50r5.eq_1
def f50b6 : AQ := (.seq (.region f50r5) f50b4)
theorem uf50b6 (P ts os Q) : awl P f50b6 Q ts os = awl P (.seq (.region f50r5) f50b4) Q ts os := id rfl
def f50r7 : List AI := [⟨none, (.mov 17 (.t 5))⟩, ⟨none, (.load 18 3 true (.t 7))⟩, ⟨none, (.mov 19 (.t 1))⟩, ⟨none, (.bin 20 .add (.t 19) (.v (.k (.c (.int .i64 1)))))⟩, ⟨none, (.call (some 21) 50 [(.t 18), (.t 20)])⟩, ⟨none, (.bin 22 .add (.t 17) (.t 21))⟩, ⟨none, (.mov 5 (.t 22))⟩]
theorem uf50r7 : type_of% @f50r7.eq_1 := id @f50r7.eq_1
def f50b8 : AQ := (.seq (.region f50r7) f50b6)
theorem uf50b8 (P ts os Q) : awl P f50b8 Q ts os = awl P (.seq (.region f50r7) f50b6) Q ts os := id rfl
def f50r9 : List AI := [⟨none, (.iaddr 15 3 (.t 11) (.t 13))⟩, ⟨none, (.load 16 3 true (.t 15))⟩, ⟨none, (.alloc 7 50 [(.int .i64 0), (.int .i64 0), (.list 0 (some true) [])])⟩, ⟨none, (.store 3 (.t 7) (.t 16))⟩]
theorem uf50r9 : type_of% @f50r9.eq_1 := id @f50r9.eq_1
def f50b10 : AQ := (.seq (.region f50r9) f50b8)
theorem uf50b10 (P ts os Q) : awl P f50b10 Q ts os = awl P (.seq (.region f50r9) f50b8) Q ts os := id rfl
def f50b11 : AQ := (.block 1 f50b10)
theorem uf50b11 (P ts os Q) : awl P f50b11 Q ts os = awl P (.block 1 f50b10) Q ts os := id rfl
def f50b12 : AQ := (.seq f50b11 (.region f50r3))
theorem uf50b12 (P ts os Q) : awl P f50b12 Q ts os = awl P (.seq f50b11 (.region f50r3)) Q ts os := id rfl
def f50b13 : AQ := (.cond (.t 14) .skip (.exit 0))
theorem uf50b13 (P ts os Q) : awl P f50b13 Q ts os = awl P (.cond (.t 14) .skip (.exit 0)) Q ts os := id rfl
def f50b14 : AQ := (.seq f50b13 f50b12)
theorem uf50b14 (P ts os Q) : awl P f50b14 Q ts os = awl P (.seq f50b13 f50b12) Q ts os := id rfl
def f50r15 : List AI := [⟨none, (.bin 14 .lss (.t 13) (.t 12))⟩]
theorem uf50r15 : type_of% @f50r15.eq_1 := id @f50r15.eq_1
def f50b16 : AQ := (.seq (.region f50r15) f50b14)
theorem uf50b16 (P ts os Q) : awl P f50b16 Q ts os = awl P (.seq (.region f50r15) f50b14) Q ts os := id rfl
def f50l17 : AQ := .loop [1, 5, 11, 12, 13] [] f50b16
theorem uf50l17 (P ts os Q) : awl P f50l17 Q ts os = awl P (.loop [1, 5, 11, 12, 13] [] f50b16) Q ts os := id rfl
def f50b18 : AQ := (.block 0 f50l17)
theorem uf50b18 (P ts os Q) : awl P f50b18 Q ts os = awl P (.block 0 f50l17) Q ts os := id rfl
def f50r19 : List AI := [⟨none, (.faddr 10 2 (.t 2))⟩, ⟨none, (.load 11 1 false (.t 10))⟩, ⟨none, (.len 12 (.t 11))⟩, ⟨none, (.mov 13 (.v (.k (.c (.int .i64 0)))))⟩]
theorem uf50r19 : type_of% @f50r19.eq_1 := id @f50r19.eq_1
def f50b20 : AQ := (.seq (.region f50r19) f50b18)
theorem uf50b20 (P ts os Q) : awl P f50b20 Q ts os = awl P (.seq (.region f50r19) f50b18) Q ts os := id rfl
def f50b21 : AQ := (.seq f50b20 f50b2)
theorem uf50b21 (P ts os Q) : awl P f50b21 Q ts os = awl P (.seq f50b20 f50b2) Q ts os := id rfl
def f50r22 : List AI := [⟨none, (.mov 5 (.v (.k (.c (.int .i64 1)))))⟩]
theorem uf50r22 : type_of% @f50r22.eq_1 := id @f50r22.eq_1
def f50b23 : AQ := (.seq (.region f50r22) f50b21)
theorem uf50b23 (P ts os Q) : awl P f50b23 Q ts os = awl P (.seq (.region f50r22) f50b21) Q ts os := id rfl
def f50r24 : List AI := [⟨none, (.mov 4 (.v (.k (.c (.int .i64 61)))))⟩]
theorem uf50r24 : type_of% @f50r24.eq_1 := id @f50r24.eq_1
def f50b25 : AQ := (.seq (.region f50r24) .ret)
theorem uf50b25 (P ts os Q) : awl P f50b25 Q ts os = awl P (.seq (.region f50r24) .ret) Q ts os := id rfl
def f50b26 : AQ := (.cond (.t 9) f50b25 .skip)
theorem uf50b26 (P ts os Q) : awl P f50b26 Q ts os = awl P (.cond (.t 9) f50b25 .skip) Q ts os := id rfl
def f50r27 : List AI := [⟨none, (.mov 8 (.t 1))⟩, ⟨none, (.bin 9 .gtr (.t 8) (.v (.k (.c (.int .i64 8)))))⟩]
theorem uf50r27 : type_of% @f50r27.eq_1 := id @f50r27.eq_1
def f50b28 : AQ := (.seq (.region f50r27) f50b26)
theorem uf50b28 (P ts os Q) : awl P f50b28 Q ts os = awl P (.seq (.region f50r27) f50b26) Q ts os := id rfl
def f50b29 : AQ := (.seq f50b28 f50b23)
theorem uf50b29 (P ts os Q) : awl P f50b29 Q ts os = awl P (.seq f50b28 f50b23) Q ts os := id rfl
def f50r30 : List AI := [⟨none, (.box 2 50 (.t 0))⟩, ⟨none, (.mov 4 (.v (.k (.c (.int .i64 0)))))⟩]
theorem uf50r30 : type_of% @f50r30.eq_1 := id @f50r30.eq_1
def f50b31 : AQ := (.seq (.region f50r30) f50b29)
theorem uf50b31 (P ts os Q) : awl P f50b31 Q ts os = awl P (.seq (.region f50r30) f50b29) Q ts os := id rfl
def f50 : AQ := f50b31
theorem uf50 (P ts os Q) : awl P f50 Q ts os = awl P f50b31 Q ts os := id rfl
theorem hf50 : cFunc Tryd.prog 50 = some ⟨27, f50.erase, [(RX.t 4)]⟩ := by kernel_rfl
theorem okf50 : f50.ok = true := by kernel_rfl
def f51r1 : List AI := [⟨none, (.faddr 111 1 (.t 9))⟩, ⟨none, (.load 112 1 false (.t 111))⟩, ⟨none, (.mov 2 (.t 112))⟩, ⟨none, (.mov 3 (.v (.k (.c (.int .i64 0)))))⟩]
theorem uf51r1 : type_of% @f51r1.eq_1 := id @f51r1.eq_1
def f51b2 : AQ := (.seq (.region f51r1) .ret)
theorem uf51b2 (P ts os Q) : awl P f51b2 Q ts os = awl P (.seq (.region f51r1) .ret) Q ts os := id rfl
def f51r3 : List AI := [⟨none, (.mov 110 (.t 10))⟩, ⟨none, (.mov 2 (.t 110))⟩, ⟨none, (.mov 3 (.v (.k (.c (.int .i64 0)))))⟩]
theorem uf51r3 : type_of% @f51r3.eq_1 := id @f51r3.eq_1
def f51b4 : AQ := (.seq (.region f51r3) .ret)
theorem uf51b4 (P ts os Q) : awl P f51b4 Q ts os = awl P (.seq (.region f51r3) .ret) Q ts os := id rfl
def f51b5 : AQ := (.cond (.t 109) f51b4 .skip)
theorem uf51b5 (P ts os Q) : awl P f51b5 Q ts os = awl P (.cond (.t 109) f51b4 .skip) Q ts os := id rfl
def f51r6 : List AI := [⟨none, (.faddr 107 1 (.t 9))⟩, ⟨none, (.load 108 1 false (.t 107))⟩, ⟨none, (.bin 109 .eql (.t 108) (.v (.k (.c (.int .i64 (-1))))))⟩]
theorem uf51r6 : type_of% @f51r6.eq_1 := id @f51r6.eq_1
def f51b7 : AQ := (.seq (.region f51r6) f51b5)
theorem uf51b7 (P ts os Q) : awl P f51b7 Q ts os = awl P (.seq (.region f51r6) f51b5) Q ts os := id rfl
def f51b8 : AQ := (.seq f51b7 f51b2)
theorem uf51b8 (P ts os Q) : awl P f51b8 Q ts os = awl P (.seq f51b7 f51b2) Q ts os := id rfl
def f51r9 : List AI := [⟨none, (.bin 106 .add (.t 82) (.v (.k (.c (.int .i64 1)))))⟩, ⟨none, (.mov 82 (.t 106))⟩]
theorem uf51r9 : type_of% @f51r9.eq_1 := id @f51r9.eq_1
def f51r10 : List AI := [⟨none, (.mov 2 (.v (.k (.c (.int .i64 0)))))⟩, ⟨none, (.mov 3 (.v (.k (.c (.int .i64 11)))))⟩]
theorem uf51r10 : type_of% @f51r10.eq_1 := id @f51r10.eq_1
def f51b11 : AQ := (.seq (.region f51r10) .ret)
theorem uf51b11 (P ts os Q) : awl P f51b11 Q ts os = awl P (.seq (.region f51r10) .ret) Q ts os := id rfl
def f51b12 : AQ := (.cond (.t 105) f51b11 .skip)
theorem uf51b12 (P ts os Q) : awl P f51b12 Q ts os = awl P (.cond (.t 105) f51b11 .skip) Q ts os := id rfl
def f51r13 : List AI := [⟨none, (.mov 100 (.t 4))⟩, ⟨none, (.mov 101 (.t 11))⟩, ⟨none, (.iaddr 102 1 (.t 100) (.t 101))⟩, ⟨none, (.load 103 1 false (.t 102))⟩, ⟨none, (.mov 104 (.t 12))⟩, ⟨none, (.bin 105 .neq (.t 103) (.t 104))⟩]
theorem uf51r13 : type_of% @f51r13.eq_1 := id @f51r13.eq_1
def f51b14 : AQ := (.seq (.region f51r13) f51b12)
theorem uf51b14 (P ts os Q) : awl P f51b14 Q ts os = awl P (.seq (.region f51r13) f51b12) Q ts os := id rfl
def f51r15 : List AI := [⟨none, (.mov 99 (.t 10))⟩, ⟨none, (.mov 12 (.t 99))⟩]
theorem uf51r15 : type_of% @f51r15.eq_1 := id @f51r15.eq_1
def f51b16 : AQ := (.cond (.t 98) (.region f51r15) .skip)
theorem uf51b16 (P ts os Q) : awl P f51b16 Q ts os = awl P (.cond (.t 98) (.region f51r15) .skip) Q ts os := id rfl
def f51r17 : List AI := [⟨none, (.mov 97 (.t 12))⟩, ⟨none, (.bin 98 .eql (.t 97) (.v (.k (.c (.int .i64 (-1))))))⟩]
theorem uf51r17 : type_of% @f51r17.eq_1 := id @f51r17.eq_1
def f51b18 : AQ := (.seq (.region f51r17) f51b16)
theorem uf51b18 (P ts os Q) : awl P f51b18 Q ts os = awl P (.seq (.region f51r17) f51b16) Q ts os := id rfl
def f51b19 : AQ := (.seq f51b18 f51b14)
theorem uf51b19 (P ts os Q) : awl P f51b19 Q ts os = awl P (.seq f51b18 f51b14) Q ts os := id rfl
def f51r20 : List AI := [⟨none, (.mov 93 (.t 4))⟩, ⟨none, (.mov 94 (.t 11))⟩, ⟨none, (.iaddr 95 1 (.t 93) (.t 94))⟩, ⟨none, (.load 96 1 false (.t 95))⟩, ⟨none, (.mov 10 (.t 96))⟩]
theorem uf51r20 : type_of% @f51r20.eq_1 := id @f51r20.eq_1
def f51b21 : AQ := (.cond (.t 92) (.region f51r20) .skip)
theorem uf51b21 (P ts os Q) : awl P f51b21 Q ts os = awl P (.cond (.t 92) (.region f51r20) .skip) Q ts os := id rfl
def f51r22 : List AI := [⟨none, (.mov 87 (.t 12))⟩, ⟨none, (.bin 88 .eql (.t 87) (.v (.k (.c (.int .i64 (-1))))))⟩, ⟨none, (.mov 89 (.t 88))⟩, ⟨(some (89, true)), (.mov 90 (.t 10))⟩, ⟨(some (89, true)), (.bin 91 .eql (.t 90) (.v (.k (.c (.int .i64 (-1))))))⟩, ⟨none, (.pick 92 (.t 89) (.t 91) (.v (.k (.c (.bool false)))))⟩]
theorem uf51r22 : type_of% @f51r22.eq_1 := id @f51r22.eq_1
def f51b23 : AQ := (.seq (.region f51r22) f51b21)
theorem uf51b23 (P ts os Q) : awl P f51b23 Q ts os = awl P (.seq (.region f51r22) f51b21) Q ts os := id rfl
def f51b24 : AQ := (.seq f51b23 f51b19)
theorem uf51b24 (P ts os Q) : awl P f51b24 Q ts os = awl P (.seq f51b23 f51b19) Q ts os := id rfl
def f51r25 : List AI := [⟨none, (.mov 84 (.t 82))⟩, ⟨none, (.iaddr 85 1 (.t 80) (.t 82))⟩, ⟨none, (.load 86 1 false (.t 85))⟩, ⟨none, (.mov 11 (.t 84))⟩, ⟨none, (.mov 12 (.t 86))⟩]
theorem uf51r25 : type_of% @f51r25.eq_1 := id @f51r25.eq_1
def f51b26 : AQ := (.seq (.region f51r25) f51b24)
theorem uf51b26 (P ts os Q) : awl P f51b26 Q ts os = awl P (.seq (.region f51r25) f51b24) Q ts os := id rfl
def f51b27 : AQ := (.block 4 f51b26)
theorem uf51b27 (P ts os Q) : awl P f51b27 Q ts os = awl P (.block 4 f51b26) Q ts os := id rfl
def f51b28 : AQ := (.seq f51b27 (.region f51r9))
theorem uf51b28 (P ts os Q) : awl P f51b28 Q ts os = awl P (.seq f51b27 (.region f51r9)) Q ts os := id rfl
def f51b29 : AQ := (.cond (.t 83) .skip (.exit 3))
theorem uf51b29 (P ts os Q) : awl P f51b29 Q ts os = awl P (.cond (.t 83) .skip (.exit 3)) Q ts os := id rfl
def f51b30 : AQ := (.seq f51b29 f51b28)
theorem uf51b30 (P ts os Q) : awl P f51b30 Q ts os = awl P (.seq f51b29 f51b28) Q ts os := id rfl
def f51r31 : List AI := [⟨none, (.bin 83 .lss (.t 82) (.t 81))⟩]
theorem uf51r31 : type_of% @f51r31.eq_1 := id @f51r31.eq_1
def f51b32 : AQ := (.seq (.region f51r31) f51b30)
theorem uf51b32 (P ts os Q) : awl P f51b32 Q ts os = awl P (.seq (.region f51r31) f51b30) Q ts os := id rfl
def f51l33 : AQ := .loop [4, 9, 10, 80, 81, 82] [9, 16, 67, 68000, 68001, 68002] f51b32
theorem uf51l33 (P ts os Q) : awl P f51l33 Q ts os = awl P (.loop [4, 9, 10, 80, 81, 82] [9, 16, 67, 68000, 68001, 68002] f51b32) Q ts os := id rfl
def f51b34 : AQ := (.block 3 f51l33)
theorem uf51b34 (P ts os Q) : awl P f51b34 Q ts os = awl P (.block 3 f51l33) Q ts os := id rfl
def f51r35 : List AI := [⟨none, (.faddr 79 0 (.t 9))⟩, ⟨none, (.load 80 1 false (.t 79))⟩, ⟨none, (.len 81 (.t 80))⟩, ⟨none, (.mov 82 (.v (.k (.c (.int .i64 0)))))⟩]
theorem uf51r35 : type_of% @f51r35.eq_1 := id @f51r35.eq_1
def f51b36 : AQ := (.seq (.region f51r35) f51b34)
theorem uf51b36 (P ts os Q) : awl P f51b36 Q ts os = awl P (.seq (.region f51r35) f51b34) Q ts os := id rfl
def f51b37 : AQ := (.seq f51b36 f51b8)
theorem uf51b37 (P ts os Q) : awl P f51b37 Q ts os = awl P (.seq f51b36 f51b8) Q ts os := id rfl
def f51r38 : List AI := [⟨none, (.mov 10 (.v (.k (.c (.int .i64 (-1))))))⟩]
theorem uf51r38 : type_of% @f51r38.eq_1 := id @f51r38.eq_1
def f51b39 : AQ := (.seq (.region f51r38) f51b37)
theorem uf51b39 (P ts os Q) : awl P f51b39 Q ts os = awl P (.seq (.region f51r38) f51b37) Q ts os := id rfl
def f51r40 : List AI := [⟨none, (.mov 2 (.v (.k (.c (.int .i64 0)))))⟩, ⟨none, (.mov 3 (.v (.k (.c (.int .i64 2)))))⟩]
theorem uf51r40 : type_of% @f51r40.eq_1 := id @f51r40.eq_1
def f51b41 : AQ := (.seq (.region f51r40) .ret)
theorem uf51b41 (P ts os Q) : awl P f51b41 Q ts os = awl P (.seq (.region f51r40) .ret) Q ts os := id rfl
def f51b42 : AQ := (.cond (.t 78) f51b41 .skip)
theorem uf51b42 (P ts os Q) : awl P f51b42 Q ts os = awl P (.cond (.t 78) f51b41 .skip) Q ts os := id rfl
def f51r43 : List AI := [⟨none, (.mov 68 (.t 4))⟩, ⟨none, (.len 69 (.t 68))⟩, ⟨none, (.faddr 70 0 (.t 9))⟩, ⟨none, (.load 71 1 false (.t 70))⟩, ⟨none, (.len 72 (.t 71))⟩, ⟨none, (.bin 73 .neq (.t 69) (.t 72))⟩, ⟨none, (.mov 74 (.t 73))⟩, ⟨(some (74, false)), (.faddr 75 1 (.t 1))⟩, ⟨(some (74, false)), (.load 76 1 false (.t 75))⟩, ⟨(some (74, false)), (.bin 77 .neq (.t 76) (.v (.k (.c (.int .i64 0)))))⟩, ⟨none, (.pick 78 (.t 74) (.v (.k (.c (.bool true)))) (.t 77))⟩]
theorem uf51r43 : type_of% @f51r43.eq_1 := id @f51r43.eq_1
def f51b44 : AQ := (.seq (.region f51r43) f51b42)
theorem uf51b44 (P ts os Q) : awl P f51b44 Q ts os = awl P (.seq (.region f51r43) f51b42) Q ts os := id rfl
def f51b45 : AQ := (.seq f51b44 f51b39)
theorem uf51b45 (P ts os Q) : awl P f51b45 Q ts os = awl P (.seq f51b44 f51b39) Q ts os := id rfl
def f51r46 : List AI := [⟨none, (.faddr 65 0 (.t 1))⟩, ⟨none, (.load 66 1 false (.t 65))⟩, ⟨none, (.call (some 67) 62 [(.t 66)])⟩, ⟨none, (.alloc 9 93 [(.list 0 (some true) []), (.int .i64 0)])⟩, ⟨none, (.store 2 (.t 9) (.t 67))⟩]
theorem uf51r46 : type_of% @f51r46.eq_1 := id @f51r46.eq_1
def f51b47 : AQ := (.seq (.region f51r46) f51b45)
theorem uf51b47 (P ts os Q) : awl P f51b47 Q ts os = awl P (.seq (.region f51r46) f51b45) Q ts os := id rfl
def f51r48 : List AI := [⟨none, (.mov 2 (.v (.k (.c (.int .i64 0)))))⟩, ⟨none, (.mov 3 (.v (.k (.c (.int .i64 1)))))⟩]
theorem uf51r48 : type_of% @f51r48.eq_1 := id @f51r48.eq_1
def f51b49 : AQ := (.seq (.region f51r48) .ret)
theorem uf51b49 (P ts os Q) : awl P f51b49 Q ts os = awl P (.seq (.region f51r48) .ret) Q ts os := id rfl
def f51r50 : List AI := [⟨none, (.load 61 3 true (.t 1))⟩, ⟨none, (.call (some 62) 61 [(.t 61)])⟩, ⟨none, (.extr 63 (.t 62) 0)⟩, ⟨none, (.extr 64 (.t 62) 1)⟩, ⟨none, (.mov 2 (.t 63))⟩, ⟨none, (.mov 3 (.t 64))⟩]
theorem uf51r50 : type_of% @f51r50.eq_1 := id @f51r50.eq_1
def f51b51 : AQ := (.seq (.region f51r50) .ret)
theorem uf51b51 (P ts os Q) : awl P f51b51 Q ts os = awl P (.seq (.region f51r50) .ret) Q ts os := id rfl
def f51b52 : AQ := (.cond (.t 47) f51b51 .skip)
theorem uf51b52 (P ts os Q) : awl P f51b52 Q ts os = awl P (.cond (.t 47) f51b51 .skip) Q ts os := id rfl
def f51r53 : List AI := [⟨none, (.faddr 48 0 (.t 1))⟩, ⟨none, (.load 49 1 false (.t 48))⟩, ⟨none, (.bin 50 .eql (.t 49) (.v (.k (.c (.int .i64 0)))))⟩, ⟨none, (.mov 51 (.t 50))⟩, ⟨(some (51, false)), (.faddr 52 0 (.t 1))⟩, ⟨(some (51, false)), (.load 53 1 false (.t 52))⟩, ⟨(some (51, false)), (.bin 54 .eql (.t 53) (.v (.k (.c (.int .i64 1)))))⟩, ⟨none, (.pick 55 (.t 51) (.v (.k (.c (.bool true)))) (.t 54))⟩, ⟨none, (.mov 56 (.t 55))⟩, ⟨(some (56, false)), (.faddr 57 0 (.t 1))⟩, ⟨(some (56, false)), (.load 58 1 false (.t 57))⟩, ⟨(some (56, false)), (.bin 59 .eql (.t 58) (.v (.k (.c (.int .i64 2)))))⟩, ⟨none, (.pick 60 (.t 56) (.v (.k (.c (.bool true)))) (.t 59))⟩, ⟨none, (.mov 47 (.t 60))⟩]
theorem uf51r53 : type_of% @f51r53.eq_1 := id @f51r53.eq_1
def f51b54 : AQ := (.seq (.region f51r53) f51b52)
theorem uf51b54 (P ts os Q) : awl P f51b54 Q ts os = awl P (.seq (.region f51r53) f51b52) Q ts os := id rfl
def f51b55 : AQ := (.cond (.t 38) f51b49 f51b54)
theorem uf51b55 (P ts os Q) : awl P f51b55 Q ts os = awl P (.cond (.t 38) f51b49 f51b54) Q ts os := id rfl
def f51r56 : List AI := [⟨none, (.faddr 39 0 (.t 1))⟩, ⟨none, (.load 40 1 false (.t 39))⟩, ⟨none, (.bin 41 .lss (.t 40) (.v (.k (.c (.int .i64 0)))))⟩, ⟨none, (.mov 42 (.t 41))⟩, ⟨(some (42, false)), (.faddr 43 0 (.t 1))⟩, ⟨(some (42, false)), (.load 44 1 false (.t 43))⟩, ⟨(some (42, false)), (.bin 45 .gtr (.t 44) (.v (.k (.c (.int .i64 13)))))⟩, ⟨none, (.pick 46 (.t 42) (.v (.k (.c (.bool true)))) (.t 45))⟩, ⟨none, (.mov 38 (.t 46))⟩]
theorem uf51r56 : type_of% @f51r56.eq_1 := id @f51r56.eq_1
def f51b57 : AQ := (.seq (.region f51r56) f51b55)
theorem uf51b57 (P ts os Q) : awl P f51b57 Q ts os = awl P (.seq (.region f51r56) f51b55) Q ts os := id rfl
def f51b58 : AQ := (.block 2 f51b57)
theorem uf51b58 (P ts os Q) : awl P f51b58 Q ts os = awl P (.block 2 f51b57) Q ts os := id rfl
def f51b59 : AQ := (.seq f51b58 f51b47)
theorem uf51b59 (P ts os Q) : awl P f51b59 Q ts os = awl P (.seq f51b58 f51b47) Q ts os := id rfl
def f51r60 : List AI := [⟨none, (.bin 37 .add (.t 20) (.v (.k (.c (.int .i64 1)))))⟩, ⟨none, (.mov 20 (.t 37))⟩]
theorem uf51r60 : type_of% @f51r60.eq_1 := id @f51r60.eq_1
def f51r61 : List AI := [⟨none, (.mov 33 (.t 4))⟩, ⟨none, (.mov 34 (.t 5))⟩, ⟨none, (.mov 35 (.t 7))⟩, ⟨none, (.iaddr 36 1 (.t 33) (.t 34))⟩, ⟨none, (.store 1 (.t 36) (.t 35))⟩]
theorem uf51r61 : type_of% @f51r61.eq_1 := id @f51r61.eq_1
def f51r62 : List AI := [⟨none, (.mov 32 (.t 8))⟩, ⟨none, (.mov 2 (.v (.k (.c (.int .i64 0)))))⟩, ⟨none, (.mov 3 (.t 32))⟩]
theorem uf51r62 : type_of% @f51r62.eq_1 := id @f51r62.eq_1
def f51b63 : AQ := (.seq (.region f51r62) .ret)
theorem uf51b63 (P ts os Q) : awl P f51b63 Q ts os = awl P (.seq (.region f51r62) .ret) Q ts os := id rfl
def f51b64 : AQ := (.cond (.t 31) f51b63 .skip)
theorem uf51b64 (P ts os Q) : awl P f51b64 Q ts os = awl P (.cond (.t 31) f51b63 .skip) Q ts os := id rfl
def f51r65 : List AI := [⟨none, (.mov 30 (.t 8))⟩, ⟨none, (.bin 31 .neq (.t 30) (.v (.k (.c (.int .i64 0)))))⟩]
theorem uf51r65 : type_of% @f51r65.eq_1 := id @f51r65.eq_1
def f51b66 : AQ := (.seq (.region f51r65) f51b64)
theorem uf51b66 (P ts os Q) : awl P f51b66 Q ts os = awl P (.seq (.region f51r65) f51b64) Q ts os := id rfl
def f51b67 : AQ := (.seq f51b66 (.region f51r61))
theorem uf51b67 (P ts os Q) : awl P f51b67 Q ts os = awl P (.seq f51b66 (.region f51r61)) Q ts os := id rfl
def f51r68 : List AI := [⟨none, (.load 26 3 true (.t 6))⟩, ⟨none, (.call (some 27) 51 [(.t 26)])⟩, ⟨none, (.mov 25 (.t 27))⟩, ⟨none, (.extr 28 (.t 25) 0)⟩, ⟨none, (.extr 29 (.t 25) 1)⟩, ⟨none, (.mov 7 (.t 28))⟩, ⟨none, (.mov 8 (.t 29))⟩]
theorem uf51r68 : type_of% @f51r68.eq_1 := id @f51r68.eq_1
def f51b69 : AQ := (.seq (.region f51r68) f51b67)
theorem uf51b69 (P ts os Q) : awl P f51b69 Q ts os = awl P (.seq (.region f51r68) f51b67) Q ts os := id rfl
def f51r70 : List AI := [⟨none, (.mov 22 (.t 20))⟩, ⟨none, (.iaddr 23 3 (.t 18) (.t 20))⟩, ⟨none, (.load 24 3 true (.t 23))⟩, ⟨none, (.alloc 6 50 [(.int .i64 0), (.int .i64 0), (.list 0 (some true) [])])⟩, ⟨none, (.mov 5 (.t 22))⟩, ⟨none, (.store 3 (.t 6) (.t 24))⟩]
theorem uf51r70 : type_of% @f51r70.eq_1 := id @f51r70.eq_1
def f51b71 : AQ := (.seq (.region f51r70) f51b69)
theorem uf51b71 (P ts os Q) : awl P f51b71 Q ts os = awl P (.seq (.region f51r70) f51b69) Q ts os := id rfl
def f51b72 : AQ := (.block 1 f51b71)
theorem uf51b72 (P ts os Q) : awl P f51b72 Q ts os = awl P (.block 1 f51b71) Q ts os := id rfl
def f51b73 : AQ := (.seq f51b72 (.region f51r60))
theorem uf51b73 (P ts os Q) : awl P f51b73 Q ts os = awl P (.seq f51b72 (.region f51r60)) Q ts os := id rfl
def f51b74 : AQ := (.cond (.t 21) .skip (.exit 0))
theorem uf51b74 (P ts os Q) : awl P f51b74 Q ts os = awl P (.cond (.t 21) .skip (.exit 0)) Q ts os := id rfl
def f51b75 : AQ := (.seq f51b74 f51b73)
theorem uf51b75 (P ts os Q) : awl P f51b75 Q ts os = awl P (.seq f51b74 f51b73) Q ts os := id rfl
def f51r76 : List AI := [⟨none, (.bin 21 .lss (.t 20) (.t 19))⟩]
theorem uf51r76 : type_of% @f51r76.eq_1 := id @f51r76.eq_1
def f51b77 : AQ := (.seq (.region f51r76) f51b75)
theorem uf51b77 (P ts os Q) : awl P f51b77 Q ts os = awl P (.seq (.region f51r76) f51b75) Q ts os := id rfl
def f51l78 : AQ := .loop [1, 4, 18, 19, 20] [1, 16] f51b77
theorem uf51l78 (P ts os Q) : awl P f51l78 Q ts os = awl P (.loop [1, 4, 18, 19, 20] [1, 16] f51b77) Q ts os := id rfl
def f51b79 : AQ := (.block 0 f51l78)
theorem uf51b79 (P ts os Q) : awl P f51b79 Q ts os = awl P (.block 0 f51l78) Q ts os := id rfl
def f51r80 : List AI := [⟨none, (.faddr 17 2 (.t 1))⟩, ⟨none, (.load 18 1 false (.t 17))⟩, ⟨none, (.len 19 (.t 18))⟩, ⟨none, (.mov 20 (.v (.k (.c (.int .i64 0)))))⟩]
theorem uf51r80 : type_of% @f51r80.eq_1 := id @f51r80.eq_1
def f51b81 : AQ := (.seq (.region f51r80) f51b79)
theorem uf51b81 (P ts os Q) : awl P f51b81 Q ts os = awl P (.seq (.region f51r80) f51b79) Q ts os := id rfl
def f51b82 : AQ := (.seq f51b81 f51b59)
theorem uf51b82 (P ts os Q) : awl P f51b82 Q ts os = awl P (.seq f51b81 f51b59) Q ts os := id rfl
def f51r83 : List AI := [⟨none, (.faddr 13 2 (.t 1))⟩, ⟨none, (.load 14 1 false (.t 13))⟩, ⟨none, (.len 15 (.t 14))⟩, ⟨none, (.mkslice 16 3 1 8 [(.int .i64 0)] (.t 15) (.t 15))⟩, ⟨none, (.mov 4 (.t 16))⟩]
theorem uf51r83 : type_of% @f51r83.eq_1 := id @f51r83.eq_1
def f51b84 : AQ := (.seq (.region f51r83) f51b82)
theorem uf51b84 (P ts os Q) : awl P f51b84 Q ts os = awl P (.seq (.region f51r83) f51b82) Q ts os := id rfl
def f51r85 : List AI := [⟨none, (.box 1 50 (.t 0))⟩, ⟨none, (.mov 2 (.v (.k (.c (.int .i64 0)))))⟩, ⟨none, (.mov 3 (.v (.k (.c (.int .i64 0)))))⟩]
theorem uf51r85 : type_of% @f51r85.eq_1 := id @f51r85.eq_1
def f51b86 : AQ := (.seq (.region f51r85) f51b84)
theorem uf51b86 (P ts os Q) : awl P f51b86 Q ts os = awl P (.seq (.region f51r85) f51b84) Q ts os := id rfl
def f51 : AQ := f51b86
theorem uf51 (P ts os Q) : awl P f51 Q ts os = awl P f51b86 Q ts os := id rfl
theorem hf51 : cFunc Tryd.prog 51 = some ⟨113, f51.erase, [(RX.t 2), (RX.t 3)]⟩ := by kernel_rfl
theorem okf51 : f51.ok = true := by kernel_rfl
def f52r1 : List AI := [⟨none, (.faddr 37 0 (.t 2))⟩, ⟨none, (.load 38 1 false (.t 37))⟩, ⟨none, (.mov 39 (.t 1))⟩, ⟨none, (.iaddr 40 2 (.t 38) (.t 39))⟩, ⟨none, (.faddr 41 1 (.t 40))⟩, ⟨none, (.load 42 1 false (.t 41))⟩, ⟨none, (.call (some 43) 65 [(.t 42)])⟩, ⟨none, (.build 44 [(.bool false), (.int .i64 0)] [(0, (1, (.v (.k (.c (.bool true)))))), (1, (1, (.t 43)))])⟩, ⟨none, (.store 2 (.t 4) (.t 44))⟩]
theorem uf52r1 : type_of% @f52r1.eq_1 := id @f52r1.eq_1
def f52b2 : AQ := (.seq (.region f52r1) .ret)
theorem uf52b2 (P ts os Q) : awl P f52b2 Q ts os = awl P (.seq (.region f52r1) .ret) Q ts os := id rfl
def f52r3 : List AI := [⟨none, (.faddr 29 0 (.t 2))⟩, ⟨none, (.load 30 1 false (.t 29))⟩, ⟨none, (.mov 31 (.t 1))⟩, ⟨none, (.iaddr 32 2 (.t 30) (.t 31))⟩, ⟨none, (.faddr 33 1 (.t 32))⟩, ⟨none, (.load 34 1 false (.t 33))⟩, ⟨none, (.bin 35 .neq (.t 34) (.v (.k (.c (.int .i64 0)))))⟩, ⟨none, (.call (some 36) 64 [(.t 35)])⟩, ⟨none, (.store 2 (.t 4) (.t 36))⟩]
theorem uf52r3 : type_of% @f52r3.eq_1 := id @f52r3.eq_1
def f52b4 : AQ := (.seq (.region f52r3) .ret)
theorem uf52b4 (P ts os Q) : awl P f52b4 Q ts os = awl P (.seq (.region f52r3) .ret) Q ts os := id rfl
def f52b5 : AQ := (.cond (.t 28) f52b4 .skip)
theorem uf52b5 (P ts os Q) : awl P f52b5 Q ts os = awl P (.cond (.t 28) f52b4 .skip) Q ts os := id rfl
def f52r6 : List AI := [⟨none, (.mov 27 (.t 5))⟩, ⟨none, (.bin 28 .eql (.t 27) (.v (.k (.c (.int .i64 1)))))⟩]
theorem uf52r6 : type_of% @f52r6.eq_1 := id @f52r6.eq_1
def f52b7 : AQ := (.seq (.region f52r6) f52b5)
theorem uf52b7 (P ts os Q) : awl P f52b7 Q ts os = awl P (.seq (.region f52r6) f52b5) Q ts os := id rfl
def f52r8 : List AI := [⟨none, (.mov 23 (.t 1))⟩, ⟨none, (.call (some 24) 63 [(.t 23)])⟩, ⟨none, (.mov 22 (.t 24))⟩, ⟨none, (.extr 25 (.t 22) 0)⟩, ⟨none, (.extr 26 (.t 22) 1)⟩, ⟨none, (.mov 5 (.t 25))⟩, ⟨none, (.mov 6 (.t 26))⟩]
theorem uf52r8 : type_of% @f52r8.eq_1 := id @f52r8.eq_1
def f52b9 : AQ := (.seq (.region f52r8) f52b7)
theorem uf52b9 (P ts os Q) : awl P f52b9 Q ts os = awl P (.seq (.region f52r8) f52b7) Q ts os := id rfl
def f52b10 : AQ := (.seq f52b9 f52b2)
theorem uf52b10 (P ts os Q) : awl P f52b10 Q ts os = awl P (.seq f52b9 f52b2) Q ts os := id rfl
def f52r11 : List AI := [⟨none, (.build 21 [(.bool false), (.int .i64 0)] [])⟩, ⟨none, (.store 2 (.t 4) (.t 21))⟩]
theorem uf52r11 : type_of% @f52r11.eq_1 := id @f52r11.eq_1
def f52b12 : AQ := (.seq (.region f52r11) .ret)
theorem uf52b12 (P ts os Q) : awl P f52b12 Q ts os = awl P (.seq (.region f52r11) .ret) Q ts os := id rfl
def f52b13 : AQ := (.cond (.t 20) f52b12 .skip)
theorem uf52b13 (P ts os Q) : awl P f52b13 Q ts os = awl P (.cond (.t 20) f52b12 .skip) Q ts os := id rfl
def f52r14 : List AI := [⟨none, (.mov 7 (.t 1))⟩, ⟨none, (.faddr 8 0 (.t 2))⟩, ⟨none, (.load 9 1 false (.t 8))⟩, ⟨none, (.len 10 (.t 9))⟩, ⟨none, (.bin 11 .geq (.t 7) (.t 10))⟩, ⟨none, (.mov 12 (.t 11))⟩, ⟨(some (12, false)), (.faddr 13 0 (.t 2))⟩, ⟨(some (12, false)), (.load 14 1 false (.t 13))⟩, ⟨(some (12, false)), (.mov 15 (.t 1))⟩, ⟨(some (12, false)), (.iaddr 16 2 (.t 14) (.t 15))⟩, ⟨(some (12, false)), (.faddr 17 0 (.t 16))⟩, ⟨(some (12, false)), (.load 18 1 false (.t 17))⟩, ⟨(some (12, false)), (.un 19 .not (.t 18))⟩, ⟨none, (.pick 20 (.t 12) (.v (.k (.c (.bool true)))) (.t 19))⟩]
theorem uf52r14 : type_of% @f52r14.eq_1 := id @f52r14.eq_1
def f52b15 : AQ := (.seq (.region f52r14) f52b13)
theorem uf52b15 (P ts os Q) : awl P f52b15 Q ts os = awl P (.seq (.region f52r14) f52b13) Q ts os := id rfl
def f52b16 : AQ := (.seq f52b15 f52b10)
theorem uf52b16 (P ts os Q) : awl P f52b16 Q ts os = awl P (.seq f52b15 f52b10) Q ts os := id rfl
def f52r17 : List AI := [⟨none, (.box 2 73 (.t 0))⟩, ⟨none, (.alloc 4 30 [(.bool false), (.int .i64 0)])⟩]
theorem uf52r17 : type_of% @f52r17.eq_1 := id @f52r17.eq_1
def f52b18 : AQ := (.seq (.region f52r17) f52b16)
theorem uf52b18 (P ts os Q) : awl P f52b18 Q ts os = awl P (.seq (.region f52r17) f52b16) Q ts os := id rfl
def f52 : AQ := f52b18
theorem uf52 (P ts os Q) : awl P f52 Q ts os = awl P f52b18 Q ts os := id rfl
theorem hf52 : cFunc Tryd.prog 52 = some ⟨45, f52.erase, [(RX.cell 4 2 true)]⟩ := by kernel_rfl
theorem okf52 : f52.ok = true := by kernel_rfl
def f53r1 : List AI := [⟨none, (.mov 100 (.t 0))⟩, ⟨none, (.mov 101 (.t 6))⟩, ⟨none, (.mov 102 (.t 7))⟩, ⟨none, (.call (some 103) 66 [(.t 100), (.t 101), (.t 102)])⟩, ⟨none, (.build 104 [(.bool false), (.int .i64 0)] [(0, (1, (.v (.k (.c (.bool true)))))), (1, (1, (.t 103)))])⟩, ⟨none, (.store 2 (.t 4) (.t 104))⟩]
theorem uf53r1 : type_of% @f53r1.eq_1 := id @f53r1.eq_1
def f53b2 : AQ := (.seq (.region f53r1) .ret)
theorem uf53b2 (P ts os Q) : awl P f53b2 Q ts os = awl P (.seq (.region f53r1) .ret) Q ts os := id rfl
def f53r3 : List AI := [⟨none, (.mov 85 (.t 0))⟩, ⟨none, (.bin 86 .eql (.t 85) (.v (.k (.c (.int .i64 4)))))⟩, ⟨none, (.call (some 87) 64 [(.t 86)])⟩, ⟨none, (.store 2 (.t 4) (.t 87))⟩]
theorem uf53r3 : type_of% @f53r3.eq_1 := id @f53r3.eq_1
def f53b4 : AQ := (.seq (.region f53r3) .ret)
theorem uf53b4 (P ts os Q) : awl P f53b4 Q ts os = awl P (.seq (.region f53r3) .ret) Q ts os := id rfl
def f53r5 : List AI := [⟨none, (.mov 90 (.t 6))⟩, ⟨none, (.mov 91 (.t 7))⟩, ⟨none, (.bin 92 .lss (.t 90) (.t 91))⟩, ⟨none, (.call (some 93) 64 [(.t 92)])⟩, ⟨none, (.store 2 (.t 4) (.t 93))⟩]
theorem uf53r5 : type_of% @f53r5.eq_1 := id @f53r5.eq_1
def f53b6 : AQ := (.seq (.region f53r5) .ret)
theorem uf53b6 (P ts os Q) : awl P f53b6 Q ts os = awl P (.seq (.region f53r5) .ret) Q ts os := id rfl
def f53r7 : List AI := [⟨none, (.mov 96 (.t 6))⟩, ⟨none, (.mov 97 (.t 7))⟩, ⟨none, (.bin 98 .eql (.t 96) (.t 97))⟩, ⟨none, (.call (some 99) 64 [(.t 98)])⟩, ⟨none, (.store 2 (.t 4) (.t 99))⟩]
theorem uf53r7 : type_of% @f53r7.eq_1 := id @f53r7.eq_1
def f53b8 : AQ := (.seq (.region f53r7) .ret)
theorem uf53b8 (P ts os Q) : awl P f53b8 Q ts os = awl P (.seq (.region f53r7) .ret) Q ts os := id rfl
def f53b9 : AQ := (.cond (.t 94) f53b8 .skip)
theorem uf53b9 (P ts os Q) : awl P f53b9 Q ts os = awl P (.cond (.t 94) f53b8 .skip) Q ts os := id rfl
def f53r10 : List AI := [⟨none, (.bin 95 .eql (.t 81) (.v (.k (.c (.int .i64 8)))))⟩, ⟨none, (.mov 94 (.t 95))⟩]
theorem uf53r10 : type_of% @f53r10.eq_1 := id @f53r10.eq_1
def f53b11 : AQ := (.seq (.region f53r10) f53b9)
theorem uf53b11 (P ts os Q) : awl P f53b11 Q ts os = awl P (.seq (.region f53r10) f53b9) Q ts os := id rfl
def f53b12 : AQ := (.cond (.t 88) f53b6 f53b11)
theorem uf53b12 (P ts os Q) : awl P f53b12 Q ts os = awl P (.cond (.t 88) f53b6 f53b11) Q ts os := id rfl
def f53r13 : List AI := [⟨none, (.bin 89 .eql (.t 81) (.v (.k (.c (.int .i64 7)))))⟩, ⟨none, (.mov 88 (.t 89))⟩]
theorem uf53r13 : type_of% @f53r13.eq_1 := id @f53r13.eq_1
def f53b14 : AQ := (.seq (.region f53r13) f53b12)
theorem uf53b14 (P ts os Q) : awl P f53b14 Q ts os = awl P (.seq (.region f53r13) f53b12) Q ts os := id rfl
def f53b15 : AQ := (.cond (.t 82) f53b4 f53b14)
theorem uf53b15 (P ts os Q) : awl P f53b15 Q ts os = awl P (.cond (.t 82) f53b4 f53b14) Q ts os := id rfl
def f53r16 : List AI := [⟨none, (.bin 84 .eql (.t 81) (.v (.k (.c (.int .i64 5)))))⟩, ⟨none, (.mov 82 (.t 84))⟩]
theorem uf53r16 : type_of% @f53r16.eq_1 := id @f53r16.eq_1
def f53b17 : AQ := (.cond (.t 82) .skip (.region f53r16))
theorem uf53b17 (P ts os Q) : awl P f53b17 Q ts os = awl P (.cond (.t 82) .skip (.region f53r16)) Q ts os := id rfl
def f53r18 : List AI := [⟨none, (.bin 83 .eql (.t 81) (.v (.k (.c (.int .i64 4)))))⟩, ⟨none, (.mov 82 (.t 83))⟩]
theorem uf53r18 : type_of% @f53r18.eq_1 := id @f53r18.eq_1
def f53b19 : AQ := (.seq (.region f53r18) f53b17)
theorem uf53b19 (P ts os Q) : awl P f53b19 Q ts os = awl P (.seq (.region f53r18) f53b17) Q ts os := id rfl
def f53b20 : AQ := (.seq f53b19 f53b15)
theorem uf53b20 (P ts os Q) : awl P f53b20 Q ts os = awl P (.seq f53b19 f53b15) Q ts os := id rfl
def f53b21 : AQ := (.block 1 f53b20)
theorem uf53b21 (P ts os Q) : awl P f53b21 Q ts os = awl P (.block 1 f53b20) Q ts os := id rfl
def f53r22 : List AI := [⟨none, (.mov 81 (.t 0))⟩]
theorem uf53r22 : type_of% @f53r22.eq_1 := id @f53r22.eq_1
def f53b23 : AQ := (.seq (.region f53r22) f53b21)
theorem uf53b23 (P ts os Q) : awl P f53b23 Q ts os = awl P (.seq (.region f53r22) f53b21) Q ts os := id rfl
def f53b24 : AQ := (.seq f53b23 f53b2)
theorem uf53b24 (P ts os Q) : awl P f53b24 Q ts os = awl P (.seq f53b23 f53b2) Q ts os := id rfl
def f53r25 : List AI := [⟨none, (.mov 73 (.t 1))⟩, ⟨none, (.iaddr 74 2 (.t 73) (.v (.k (.c (.int .i64 0)))))⟩, ⟨none, (.faddr 75 1 (.t 74))⟩, ⟨none, (.load 76 1 false (.t 75))⟩, ⟨none, (.mov 77 (.t 1))⟩, ⟨none, (.iaddr 78 2 (.t 77) (.v (.k (.c (.int .i64 1)))))⟩, ⟨none, (.faddr 79 1 (.t 78))⟩, ⟨none, (.load 80 1 false (.t 79))⟩, ⟨none, (.mov 6 (.t 76))⟩, ⟨none, (.mov 7 (.t 80))⟩]
theorem uf53r25 : type_of% @f53r25.eq_1 := id @f53r25.eq_1
def f53b26 : AQ := (.seq (.draw f53r25 [[], [0], [1], [2], [], [4], [5], [6], [3, 0, 1, 2, 3], [7, 8, 0, 1, 2, 3, 4, 5, 6, 7, 8]]) f53b24)
theorem uf53b26 (P ts os Q) : awl P f53b26 Q ts os = awl P (.seq (.draw f53r25 [[], [0], [1], [2], [], [4], [5], [6], [3, 0, 1, 2, 3], [7, 8, 0, 1, 2, 3, 4, 5, 6, 7, 8]]) f53b24) Q ts os := id rfl
def f53r27 : List AI := [⟨none, (.build 72 [(.bool false), (.int .i64 0)] [])⟩, ⟨none, (.store 2 (.t 4) (.t 72))⟩]
theorem uf53r27 : type_of% @f53r27.eq_1 := id @f53r27.eq_1
def f53b28 : AQ := (.seq (.region f53r27) .ret)
theorem uf53b28 (P ts os Q) : awl P f53b28 Q ts os = awl P (.seq (.region f53r27) .ret) Q ts os := id rfl
def f53b29 : AQ := (.cond (.t 71) f53b28 .skip)
theorem uf53b29 (P ts os Q) : awl P f53b29 Q ts os = awl P (.cond (.t 71) f53b28 .skip) Q ts os := id rfl
def f53r30 : List AI := [⟨none, (.mov 60 (.t 1))⟩, ⟨none, (.iaddr 61 2 (.t 60) (.v (.k (.c (.int .i64 0)))))⟩, ⟨none, (.faddr 62 0 (.t 61))⟩, ⟨none, (.load 63 1 false (.t 62))⟩, ⟨none, (.un 64 .not (.t 63))⟩, ⟨none, (.mov 65 (.t 64))⟩, ⟨(some (65, false)), (.mov 66 (.t 1))⟩, ⟨(some (65, false)), (.iaddr 67 2 (.t 66) (.v (.k (.c (.int .i64 1)))))⟩, ⟨(some (65, false)), (.faddr 68 0 (.t 67))⟩, ⟨(some (65, false)), (.load 69 1 false (.t 68))⟩, ⟨(some (65, false)), (.un 70 .not (.t 69))⟩, ⟨none, (.pick 71 (.t 65) (.v (.k (.c (.bool true)))) (.t 70))⟩]
theorem uf53r30 : type_of% @f53r30.eq_1 := id @f53r30.eq_1
def f53b31 : AQ := (.seq (.region f53r30) f53b29)
theorem uf53b31 (P ts os Q) : awl P f53b31 Q ts os = awl P (.seq (.region f53r30) f53b29) Q ts os := id rfl
def f53b32 : AQ := (.seq f53b31 f53b26)
theorem uf53b32 (P ts os Q) : awl P f53b32 Q ts os = awl P (.seq f53b31 f53b26) Q ts os := id rfl
def f53r33 : List AI := [⟨none, (.build 21 [(.bool false), (.int .i64 0)] [])⟩, ⟨none, (.store 2 (.t 4) (.t 21))⟩]
theorem uf53r33 : type_of% @f53r33.eq_1 := id @f53r33.eq_1
def f53b34 : AQ := (.seq (.region f53r33) .ret)
theorem uf53b34 (P ts os Q) : awl P f53b34 Q ts os = awl P (.seq (.region f53r33) .ret) Q ts os := id rfl
def f53r35 : List AI := [⟨none, (.mov 15 (.t 1))⟩, ⟨none, (.iaddr 16 2 (.t 15) (.v (.k (.c (.int .i64 0)))))⟩, ⟨none, (.faddr 17 1 (.t 16))⟩, ⟨none, (.load 18 1 false (.t 17))⟩, ⟨none, (.bin 19 .eql (.t 18) (.v (.k (.c (.int .i64 0)))))⟩, ⟨none, (.call (some 20) 64 [(.t 19)])⟩, ⟨none, (.store 2 (.t 4) (.t 20))⟩]
theorem uf53r35 : type_of% @f53r35.eq_1 := id @f53r35.eq_1
def f53b36 : AQ := (.seq (.region f53r35) .ret)
theorem uf53b36 (P ts os Q) : awl P f53b36 Q ts os = awl P (.seq (.region f53r35) .ret) Q ts os := id rfl
def f53b37 : AQ := (.cond (.t 14) f53b36 .skip)
theorem uf53b37 (P ts os Q) : awl P f53b37 Q ts os = awl P (.cond (.t 14) f53b36 .skip) Q ts os := id rfl
def f53r38 : List AI := [⟨none, (.mov 11 (.t 1))⟩, ⟨none, (.iaddr 12 2 (.t 11) (.v (.k (.c (.int .i64 0)))))⟩, ⟨none, (.faddr 13 0 (.t 12))⟩, ⟨none, (.load 14 1 false (.t 13))⟩]
theorem uf53r38 : type_of% @f53r38.eq_1 := id @f53r38.eq_1
def f53b39 : AQ := (.seq (.region f53r38) f53b37)
theorem uf53b39 (P ts os Q) : awl P f53b39 Q ts os = awl P (.seq (.region f53r38) f53b37) Q ts os := id rfl
def f53b40 : AQ := (.seq f53b39 f53b34)
theorem uf53b40 (P ts os Q) : awl P f53b40 Q ts os = awl P (.seq f53b39 f53b34) Q ts os := id rfl
def f53r41 : List AI := [⟨none, (.load 40 2 true (.t 5))⟩, ⟨none, (.store 2 (.t 4) (.t 40))⟩]
theorem uf53r41 : type_of% @f53r41.eq_1 := id @f53r41.eq_1
def f53b42 : AQ := (.seq (.region f53r41) .ret)
theorem uf53b42 (P ts os Q) : awl P f53b42 Q ts os = awl P (.seq (.region f53r41) .ret) Q ts os := id rfl
def f53b43 : AQ := (.cond (.t 39) f53b42 .skip)
theorem uf53b43 (P ts os Q) : awl P f53b43 Q ts os = awl P (.cond (.t 39) f53b42 .skip) Q ts os := id rfl
def f53r44 : List AI := [⟨none, (.mov 28 (.t 1))⟩, ⟨none, (.iaddr 29 2 (.t 28) (.v (.k (.c (.int .i64 0)))))⟩, ⟨none, (.load 30 2 true (.t 29))⟩, ⟨none, (.load 31 2 true (.t 5))⟩, ⟨none, (.eqAgg 32 false [.bool, .int] (.t 30) (.t 31))⟩, ⟨none, (.mov 33 (.t 32))⟩, ⟨(some (33, false)), (.mov 34 (.t 1))⟩, ⟨(some (33, false)), (.iaddr 35 2 (.t 34) (.v (.k (.c (.int .i64 1)))))⟩, ⟨(some (33, false)), (.load 36 2 true (.t 35))⟩, ⟨(some (33, false)), (.load 37 2 true (.t 5))⟩, ⟨(some (33, false)), (.eqAgg 38 false [.bool, .int] (.t 36) (.t 37))⟩, ⟨none, (.pick 39 (.t 33) (.v (.k (.c (.bool true)))) (.t 38))⟩]
theorem uf53r44 : type_of% @f53r44.eq_1 := id @f53r44.eq_1
def f53b45 : AQ := (.seq (.draw f53r44 [[], [0], [1], [], [2, 3], [4], [5], [6, 5], [7, 5], [5], [8, 9, 5], [5, 10]]) f53b43)
theorem uf53b45 (P ts os Q) : awl P f53b45 Q ts os = awl P (.seq (.draw f53r44 [[], [0], [1], [], [2, 3], [4], [5], [6, 5], [7, 5], [5], [8, 9, 5], [5, 10]]) f53b43) Q ts os := id rfl
def f53r46 : List AI := [⟨none, (.mov 25 (.t 0))⟩, ⟨none, (.bin 26 .eql (.t 25) (.v (.k (.c (.int .i64 5)))))⟩, ⟨none, (.call (some 27) 64 [(.t 26)])⟩, ⟨none, (.alloc 5 30 [(.bool false), (.int .i64 0)])⟩, ⟨none, (.store 2 (.t 5) (.t 27))⟩]
theorem uf53r46 : type_of% @f53r46.eq_1 := id @f53r46.eq_1
def f53b47 : AQ := (.seq (.region f53r46) f53b45)
theorem uf53b47 (P ts os Q) : awl P f53b47 Q ts os = awl P (.seq (.region f53r46) f53b45) Q ts os := id rfl
def f53r48 : List AI := [⟨none, (.build 59 [(.bool false), (.int .i64 0)] [])⟩, ⟨none, (.store 2 (.t 4) (.t 59))⟩]
theorem uf53r48 : type_of% @f53r48.eq_1 := id @f53r48.eq_1
def f53b49 : AQ := (.seq (.region f53r48) .ret)
theorem uf53b49 (P ts os Q) : awl P f53b49 Q ts os = awl P (.seq (.region f53r48) .ret) Q ts os := id rfl
def f53r50 : List AI := [⟨none, (.mov 56 (.t 1))⟩, ⟨none, (.iaddr 57 2 (.t 56) (.v (.k (.c (.int .i64 1)))))⟩, ⟨none, (.load 58 2 true (.t 57))⟩, ⟨none, (.store 2 (.t 4) (.t 58))⟩]
theorem uf53r50 : type_of% @f53r50.eq_1 := id @f53r50.eq_1
def f53b51 : AQ := (.seq (.region f53r50) .ret)
theorem uf53b51 (P ts os Q) : awl P f53b51 Q ts os = awl P (.seq (.region f53r50) .ret) Q ts os := id rfl
def f53b52 : AQ := (.cond (.t 55) f53b51 .skip)
theorem uf53b52 (P ts os Q) : awl P f53b52 Q ts os = awl P (.cond (.t 55) f53b51 .skip) Q ts os := id rfl
def f53r53 : List AI := [⟨none, (.mov 43 (.t 1))⟩, ⟨none, (.iaddr 44 2 (.t 43) (.v (.k (.c (.int .i64 1)))))⟩, ⟨none, (.faddr 45 0 (.t 44))⟩, ⟨none, (.load 46 1 false (.t 45))⟩, ⟨none, (.mov 47 (.t 46))⟩, ⟨(some (47, true)), (.mov 48 (.t 1))⟩, ⟨(some (47, true)), (.iaddr 49 2 (.t 48) (.v (.k (.c (.int .i64 1)))))⟩, ⟨(some (47, true)), (.load 50 2 true (.t 49))⟩, ⟨(some (47, true)), (.mov 51 (.t 1))⟩, ⟨(some (47, true)), (.iaddr 52 2 (.t 51) (.v (.k (.c (.int .i64 2)))))⟩, ⟨(some (47, true)), (.load 53 2 true (.t 52))⟩, ⟨(some (47, true)), (.eqAgg 54 false [.bool, .int] (.t 50) (.t 53))⟩, ⟨none, (.pick 55 (.t 47) (.t 54) (.v (.k (.c (.bool false)))))⟩]
theorem uf53r53 : type_of% @f53r53.eq_1 := id @f53r53.eq_1
def f53b54 : AQ := (.seq (.draw f53r53 [[], [0], [1], [2], [3], [4], [5, 4], [6, 4], [4], [8, 4], [9, 4], [7, 10, 4], [4, 11]]) f53b52)
theorem uf53b54 (P ts os Q) : awl P f53b54 Q ts os = awl P (.seq (.draw f53r53 [[], [0], [1], [2], [3], [4], [5, 4], [6, 4], [4], [8, 4], [9, 4], [7, 10, 4], [4, 11]]) f53b52) Q ts os := id rfl
def f53b55 : AQ := (.seq f53b54 f53b49)
theorem uf53b55 (P ts os Q) : awl P f53b55 Q ts os = awl P (.seq f53b54 f53b49) Q ts os := id rfl
def f53b56 : AQ := (.cond (.t 41) f53b55 .skip)
theorem uf53b56 (P ts os Q) : awl P f53b56 Q ts os = awl P (.cond (.t 41) f53b55 .skip) Q ts os := id rfl
def f53r57 : List AI := [⟨none, (.bin 42 .eql (.t 8) (.v (.k (.c (.int .i64 6)))))⟩, ⟨none, (.mov 41 (.t 42))⟩]
theorem uf53r57 : type_of% @f53r57.eq_1 := id @f53r57.eq_1
def f53b58 : AQ := (.seq (.region f53r57) f53b56)
theorem uf53b58 (P ts os Q) : awl P f53b58 Q ts os = awl P (.seq (.region f53r57) f53b56) Q ts os := id rfl
def f53b59 : AQ := (.cond (.t 22) f53b47 f53b58)
theorem uf53b59 (P ts os Q) : awl P f53b59 Q ts os = awl P (.cond (.t 22) f53b47 f53b58) Q ts os := id rfl
def f53r60 : List AI := [⟨none, (.bin 24 .eql (.t 8) (.v (.k (.c (.int .i64 5)))))⟩, ⟨none, (.mov 22 (.t 24))⟩]
theorem uf53r60 : type_of% @f53r60.eq_1 := id @f53r60.eq_1
def f53b61 : AQ := (.cond (.t 22) .skip (.region f53r60))
theorem uf53b61 (P ts os Q) : awl P f53b61 Q ts os = awl P (.cond (.t 22) .skip (.region f53r60)) Q ts os := id rfl
def f53r62 : List AI := [⟨none, (.bin 23 .eql (.t 8) (.v (.k (.c (.int .i64 4)))))⟩, ⟨none, (.mov 22 (.t 23))⟩]
theorem uf53r62 : type_of% @f53r62.eq_1 := id @f53r62.eq_1
def f53b63 : AQ := (.seq (.region f53r62) f53b61)
theorem uf53b63 (P ts os Q) : awl P f53b63 Q ts os = awl P (.seq (.region f53r62) f53b61) Q ts os := id rfl
def f53b64 : AQ := (.seq f53b63 f53b59)
theorem uf53b64 (P ts os Q) : awl P f53b64 Q ts os = awl P (.seq f53b63 f53b59) Q ts os := id rfl
def f53b65 : AQ := (.cond (.t 9) f53b40 f53b64)
theorem uf53b65 (P ts os Q) : awl P f53b65 Q ts os = awl P (.cond (.t 9) f53b40 f53b64) Q ts os := id rfl
def f53r66 : List AI := [⟨none, (.bin 10 .eql (.t 8) (.v (.k (.c (.int .i64 3)))))⟩, ⟨none, (.mov 9 (.t 10))⟩]
theorem uf53r66 : type_of% @f53r66.eq_1 := id @f53r66.eq_1
def f53b67 : AQ := (.seq (.region f53r66) f53b65)
theorem uf53b67 (P ts os Q) : awl P f53b67 Q ts os = awl P (.seq (.region f53r66) f53b65) Q ts os := id rfl
def f53b68 : AQ := (.block 0 f53b67)
theorem uf53b68 (P ts os Q) : awl P f53b68 Q ts os = awl P (.block 0 f53b67) Q ts os := id rfl
def f53r69 : List AI := [⟨none, (.mov 8 (.t 0))⟩]
theorem uf53r69 : type_of% @f53r69.eq_1 := id @f53r69.eq_1
def f53b70 : AQ := (.seq (.region f53r69) f53b68)
theorem uf53b70 (P ts os Q) : awl P f53b70 Q ts os = awl P (.seq (.region f53r69) f53b68) Q ts os := id rfl
def f53b71 : AQ := (.seq f53b70 f53b32)
theorem uf53b71 (P ts os Q) : awl P f53b71 Q ts os = awl P (.seq f53b70 f53b32) Q ts os := id rfl
def f53r72 : List AI := [⟨none, (.alloc 4 30 [(.bool false), (.int .i64 0)])⟩]
theorem uf53r72 : type_of% @f53r72.eq_1 := id @f53r72.eq_1
def f53b73 : AQ := (.seq (.region f53r72) f53b71)
theorem uf53b73 (P ts os Q) : awl P f53b73 Q ts os = awl P (.seq (.region f53r72) f53b71) Q ts os := id rfl
def f53 : AQ := f53b73
theorem uf53 (P ts os Q) : awl P f53 Q ts os = awl P f53b73 Q ts os := id rfl
theorem hf53 : cFunc Tryd.prog 53 = some ⟨105, f53.erase, [(RX.cell 4 2 true)]⟩ := by kernel_rfl
theorem okf53 : f53.ok = true := by kernel_rfl
def f54r1 : List AI := [⟨none, (.mov 35 (.t 6))⟩, ⟨none, (.mov 2 (.t 35))⟩]
theorem uf54r1 : type_of% @f54r1.eq_1 := id @f54r1.eq_1
def f54b2 : AQ := (.seq (.region f54r1) .ret)
theorem uf54b2 (P ts os Q) : awl P f54b2 Q ts os = awl P (.seq (.region f54r1) .ret) Q ts os := id rfl
def f54r3 : List AI := [⟨none, (.bin 34 .add (.t 27) (.v (.k (.c (.int .i64 1)))))⟩, ⟨none, (.mov 27 (.t 34))⟩]
theorem uf54r3 : type_of% @f54r3.eq_1 := id @f54r3.eq_1
def f54r4 : List AI := [⟨none, (.mov 31 (.t 6))⟩, ⟨none, (.mov 32 (.t 8))⟩, ⟨none, (.append 33 3 1 8 (.t 31) (.t 32))⟩, ⟨none, (.mov 6 (.t 33))⟩]
theorem uf54r4 : type_of% @f54r4.eq_1 := id @f54r4.eq_1
def f54r5 : List AI := [⟨none, (.iaddr 29 1 (.t 25) (.t 27))⟩, ⟨none, (.load 30 1 false (.t 29))⟩, ⟨none, (.mov 8 (.t 30))⟩]
theorem uf54r5 : type_of% @f54r5.eq_1 := id @f54r5.eq_1
def f54b6 : AQ := (.seq (.region f54r5) (.region f54r4))
theorem uf54b6 (P ts os Q) : awl P f54b6 Q ts os = awl P (.seq (.region f54r5) (.region f54r4)) Q ts os := id rfl
def f54b7 : AQ := (.block 3 f54b6)
theorem uf54b7 (P ts os Q) : awl P f54b7 Q ts os = awl P (.block 3 f54b6) Q ts os := id rfl
def f54b8 : AQ := (.seq f54b7 (.region f54r3))
theorem uf54b8 (P ts os Q) : awl P f54b8 Q ts os = awl P (.seq f54b7 (.region f54r3)) Q ts os := id rfl
def f54b9 : AQ := (.cond (.t 28) .skip (.exit 2))
theorem uf54b9 (P ts os Q) : awl P f54b9 Q ts os = awl P (.cond (.t 28) .skip (.exit 2)) Q ts os := id rfl
def f54b10 : AQ := (.seq f54b9 f54b8)
theorem uf54b10 (P ts os Q) : awl P f54b10 Q ts os = awl P (.seq f54b9 f54b8) Q ts os := id rfl
def f54r11 : List AI := [⟨none, (.bin 28 .lss (.t 27) (.t 26))⟩]
theorem uf54r11 : type_of% @f54r11.eq_1 := id @f54r11.eq_1
def f54b12 : AQ := (.seq (.region f54r11) f54b10)
theorem uf54b12 (P ts os Q) : awl P f54b12 Q ts os = awl P (.seq (.region f54r11) f54b10) Q ts os := id rfl
def f54l13 : AQ := .loop [6, 25, 26, 27] [24, 33, 25000, 25001, 25002] f54b12
theorem uf54l13 (P ts os Q) : awl P f54l13 Q ts os = awl P (.loop [6, 25, 26, 27] [24, 33, 25000, 25001, 25002] f54b12) Q ts os := id rfl
def f54b14 : AQ := (.block 2 f54l13)
theorem uf54b14 (P ts os Q) : awl P f54b14 Q ts os = awl P (.block 2 f54l13) Q ts os := id rfl
def f54r15 : List AI := [⟨none, (.mov 25 (.t 0))⟩, ⟨none, (.len 26 (.t 25))⟩, ⟨none, (.mov 27 (.v (.k (.c (.int .i64 0)))))⟩]
theorem uf54r15 : type_of% @f54r15.eq_1 := id @f54r15.eq_1
def f54b16 : AQ := (.seq (.region f54r15) f54b14)
theorem uf54b16 (P ts os Q) : awl P f54b16 Q ts os = awl P (.seq (.region f54r15) f54b14) Q ts os := id rfl
def f54b17 : AQ := (.seq f54b16 f54b2)
theorem uf54b17 (P ts os Q) : awl P f54b17 Q ts os = awl P (.seq f54b16 f54b2) Q ts os := id rfl
def f54r18 : List AI := [⟨none, (.mov 23 (.t 3))⟩, ⟨none, (.call (some 24) 67 [(.v (.k (.c (.list 0 (some true) [])))), (.t 23)])⟩, ⟨none, (.mov 6 (.t 24))⟩]
theorem uf54r18 : type_of% @f54r18.eq_1 := id @f54r18.eq_1
def f54b19 : AQ := (.seq (.region f54r18) f54b17)
theorem uf54b19 (P ts os Q) : awl P f54b19 Q ts os = awl P (.seq (.region f54r18) f54b17) Q ts os := id rfl
def f54r20 : List AI := [⟨none, (.bin 22 .add (.t 11) (.v (.k (.c (.int .i64 1)))))⟩, ⟨none, (.mov 11 (.t 22))⟩]
theorem uf54r20 : type_of% @f54r20.eq_1 := id @f54r20.eq_1
def f54b21 : AQ := (.cond (.v V.any) .skip .skip)
def f54b22 : AQ := (.cond (.t 20) f54b21 .skip)
theorem uf54b22 (P ts os Q) : awl P f54b22 Q ts os = awl P (.cond (.t 20) f54b21 .skip) Q ts os := id rfl
def f54r23 : List AI := [⟨none, (.mov 19 (.t 3))⟩, ⟨none, (.bin 20 .lss (.t 19) (.v (.k (.c (.int .i64 0)))))⟩]
theorem uf54r23 : type_of% @f54r23.eq_1 := id @f54r23.eq_1
def f54b24 : AQ := (.seq (.region f54r23) f54b22)
theorem uf54b24 (P ts os Q) : awl P f54b24 Q ts os = awl P (.seq (.region f54r23) f54b22) Q ts os := id rfl
def f54r25 : List AI := [⟨none, (.mov 15 (.t 3))⟩, ⟨none, (.mov 16 (.t 5))⟩, ⟨none, (.len 17 (.t 16))⟩, ⟨none, (.bin 18 .add (.t 15) (.t 17))⟩, ⟨none, (.mov 3 (.t 18))⟩]
theorem uf54r25 : type_of% @f54r25.eq_1 := id @f54r25.eq_1
def f54b26 : AQ := (.seq (.region f54r25) f54b24)
theorem uf54b26 (P ts os Q) : awl P f54b26 Q ts os = awl P (.seq (.region f54r25) f54b24) Q ts os := id rfl
def f54r27 : List AI := [⟨none, (.iaddr 13 1 (.t 9) (.t 11))⟩, ⟨none, (.load 14 1 false (.t 13))⟩, ⟨none, (.mov 5 (.t 14))⟩]
theorem uf54r27 : type_of% @f54r27.eq_1 := id @f54r27.eq_1
def f54b28 : AQ := (.seq (.region f54r27) f54b26)
theorem uf54b28 (P ts os Q) : awl P f54b28 Q ts os = awl P (.seq (.region f54r27) f54b26) Q ts os := id rfl
def f54b29 : AQ := (.block 1 f54b28)
theorem uf54b29 (P ts os Q) : awl P f54b29 Q ts os = awl P (.block 1 f54b28) Q ts os := id rfl
def f54b30 : AQ := (.seq f54b29 (.region f54r20))
theorem uf54b30 (P ts os Q) : awl P f54b30 Q ts os = awl P (.seq f54b29 (.region f54r20)) Q ts os := id rfl
def f54b31 : AQ := (.cond (.t 12) .skip (.exit 0))
theorem uf54b31 (P ts os Q) : awl P f54b31 Q ts os = awl P (.cond (.t 12) .skip (.exit 0)) Q ts os := id rfl
def f54b32 : AQ := (.seq f54b31 f54b30)
theorem uf54b32 (P ts os Q) : awl P f54b32 Q ts os = awl P (.seq f54b31 f54b30) Q ts os := id rfl
def f54r33 : List AI := [⟨none, (.bin 12 .lss (.t 11) (.t 10))⟩]
theorem uf54r33 : type_of% @f54r33.eq_1 := id @f54r33.eq_1
def f54b34 : AQ := (.seq (.region f54r33) f54b32)
theorem uf54b34 (P ts os Q) : awl P f54b34 Q ts os = awl P (.seq (.region f54r33) f54b32) Q ts os := id rfl
def f54l35 : AQ := .loop [0, 3, 9, 10, 11] [] f54b34
theorem uf54l35 (P ts os Q) : awl P f54l35 Q ts os = awl P (.loop [0, 3, 9, 10, 11] [] f54b34) Q ts os := id rfl
def f54b36 : AQ := (.block 0 f54l35)
theorem uf54b36 (P ts os Q) : awl P f54b36 Q ts os = awl P (.block 0 f54l35) Q ts os := id rfl
def f54r37 : List AI := [⟨none, (.mov 9 (.t 0))⟩, ⟨none, (.len 10 (.t 9))⟩, ⟨none, (.mov 11 (.v (.k (.c (.int .i64 0)))))⟩]
theorem uf54r37 : type_of% @f54r37.eq_1 := id @f54r37.eq_1
def f54b38 : AQ := (.seq (.region f54r37) f54b36)
theorem uf54b38 (P ts os Q) : awl P f54b38 Q ts os = awl P (.seq (.region f54r37) f54b36) Q ts os := id rfl
def f54b39 : AQ := (.seq f54b38 f54b19)
theorem uf54b39 (P ts os Q) : awl P f54b39 Q ts os = awl P (.seq f54b38 f54b19) Q ts os := id rfl
def f54r40 : List AI := [⟨none, (.mov 3 (.v (.k (.c (.int .i64 0)))))⟩]
theorem uf54r40 : type_of% @f54r40.eq_1 := id @f54r40.eq_1
def f54b41 : AQ := (.seq (.region f54r40) f54b39)
theorem uf54b41 (P ts os Q) : awl P f54b41 Q ts os = awl P (.seq (.region f54r40) f54b39) Q ts os := id rfl
def f54r42 : List AI := [⟨none, (.nilL 2 3 1)⟩]
theorem uf54r42 : type_of% @f54r42.eq_1 := id @f54r42.eq_1
def f54b43 : AQ := (.seq (.region f54r42) f54b41)
theorem uf54b43 (P ts os Q) : awl P f54b43 Q ts os = awl P (.seq (.region f54r42) f54b41) Q ts os := id rfl
def f54 : AQ := f54b43
theorem uf54 (P ts os Q) : awl P f54 Q ts os = awl P f54b43 Q ts os := id rfl
theorem hf54 : cFunc Tryd.prog 54 = some ⟨36, f54.erase, [(RX.t 2)]⟩ := by kernel_rfl
theorem okf54 : f54.ok = true := by kernel_rfl
def f61r1 : List AI := [⟨none, (.mov 38 (.t 4))⟩, ⟨none, (.mov 2 (.t 38))⟩, ⟨none, (.mov 3 (.v (.k (.c (.int .i64 0)))))⟩]
theorem uf61r1 : type_of% @f61r1.eq_1 := id @f61r1.eq_1
def f61b2 : AQ := (.seq (.region f61r1) .ret)
theorem uf61b2 (P ts os Q) : awl P f61b2 Q ts os = awl P (.seq (.region f61r1) .ret) Q ts os := id rfl
def f61r3 : List AI := [⟨none, (.mov 2 (.v (.k (.c (.int .i64 0)))))⟩, ⟨none, (.mov 3 (.v (.k (.c (.int .i64 10)))))⟩]
theorem uf61r3 : type_of% @f61r3.eq_1 := id @f61r3.eq_1
def f61b4 : AQ := (.seq (.region f61r3) .ret)
theorem uf61b4 (P ts os Q) : awl P f61b4 Q ts os = awl P (.seq (.region f61r3) .ret) Q ts os := id rfl
def f61b5 : AQ := (.cond (.t 37) f61b4 .skip)
theorem uf61b5 (P ts os Q) : awl P f61b5 Q ts os = awl P (.cond (.t 37) f61b4 .skip) Q ts os := id rfl
def f61r6 : List AI := [⟨none, (.mov 36 (.t 5))⟩, ⟨none, (.un 37 .not (.t 36))⟩]
theorem uf61r6 : type_of% @f61r6.eq_1 := id @f61r6.eq_1
def f61b7 : AQ := (.seq (.region f61r6) f61b5)
theorem uf61b7 (P ts os Q) : awl P f61b7 Q ts os = awl P (.seq (.region f61r6) f61b5) Q ts os := id rfl
def f61b8 : AQ := (.seq f61b7 f61b2)
theorem uf61b8 (P ts os Q) : awl P f61b8 Q ts os = awl P (.seq f61b7 f61b2) Q ts os := id rfl
def f61r9 : List AI := [⟨none, (.faddr 31 1 (.t 1))⟩, ⟨none, (.load 32 1 false (.t 31))⟩, ⟨none, (.call (some 33) 63 [(.t 32)])⟩, ⟨none, (.mov 30 (.t 33))⟩, ⟨none, (.extr 34 (.t 30) 0)⟩, ⟨none, (.extr 35 (.t 30) 1)⟩, ⟨none, (.mov 4 (.t 34))⟩, ⟨none, (.mov 5 (.t 35))⟩]
theorem uf61r9 : type_of% @f61r9.eq_1 := id @f61r9.eq_1
def f61b10 : AQ := (.seq (.region f61r9) f61b8)
theorem uf61b10 (P ts os Q) : awl P f61b10 Q ts os = awl P (.seq (.region f61r9) f61b8) Q ts os := id rfl
def f61r11 : List AI := [⟨none, (.mov 2 (.v (.k (.c (.int .i64 0)))))⟩, ⟨none, (.mov 3 (.v (.k (.c (.int .i64 0)))))⟩]
theorem uf61r11 : type_of% @f61r11.eq_1 := id @f61r11.eq_1
def f61b12 : AQ := (.seq (.region f61r11) .ret)
theorem uf61b12 (P ts os Q) : awl P f61b12 Q ts os = awl P (.seq (.region f61r11) .ret) Q ts os := id rfl
def f61r13 : List AI := [⟨none, (.mov 2 (.v (.k (.c (.int .i64 0)))))⟩, ⟨none, (.mov 3 (.v (.k (.c (.int .i64 3)))))⟩]
theorem uf61r13 : type_of% @f61r13.eq_1 := id @f61r13.eq_1
def f61b14 : AQ := (.seq (.region f61r13) .ret)
theorem uf61b14 (P ts os Q) : awl P f61b14 Q ts os = awl P (.seq (.region f61r13) .ret) Q ts os := id rfl
def f61b15 : AQ := (.cond (.t 19) f61b14 .skip)
theorem uf61b15 (P ts os Q) : awl P f61b15 Q ts os = awl P (.cond (.t 19) f61b14 .skip) Q ts os := id rfl
def f61r16 : List AI := [⟨none, (.faddr 14 1 (.t 1))⟩, ⟨none, (.load 15 1 false (.t 14))⟩, ⟨none, (.call (some 16) 65 [(.t 15)])⟩, ⟨none, (.faddr 17 1 (.t 1))⟩, ⟨none, (.load 18 1 false (.t 17))⟩, ⟨none, (.bin 19 .neq (.t 16) (.t 18))⟩]
theorem uf61r16 : type_of% @f61r16.eq_1 := id @f61r16.eq_1
def f61b17 : AQ := (.seq (.draw f61r16 [[], [0], [1], [], [3], [2, 4]]) f61b15)
theorem uf61b17 (P ts os Q) : awl P f61b17 Q ts os = awl P (.seq (.draw f61r16 [[], [0], [1], [], [3], [2, 4]]) f61b15) Q ts os := id rfl
def f61b18 : AQ := (.seq f61b17 f61b12)
theorem uf61b18 (P ts os Q) : awl P f61b18 Q ts os = awl P (.seq f61b17 f61b12) Q ts os := id rfl
def f61r19 : List AI := [⟨none, (.mov 2 (.v (.k (.c (.int .i64 1)))))⟩, ⟨none, (.mov 3 (.v (.k (.c (.int .i64 0)))))⟩]
theorem uf61r19 : type_of% @f61r19.eq_1 := id @f61r19.eq_1
def f61b20 : AQ := (.seq (.region f61r19) .ret)
theorem uf61b20 (P ts os Q) : awl P f61b20 Q ts os = awl P (.seq (.region f61r19) .ret) Q ts os := id rfl
def f61r21 : List AI := [⟨none, (.mov 2 (.v (.k (.c (.int .i64 0)))))⟩, ⟨none, (.mov 3 (.v (.k (.c (.int .i64 3)))))⟩]
theorem uf61r21 : type_of% @f61r21.eq_1 := id @f61r21.eq_1
def f61b22 : AQ := (.seq (.region f61r21) .ret)
theorem uf61b22 (P ts os Q) : awl P f61b22 Q ts os = awl P (.seq (.region f61r21) .ret) Q ts os := id rfl
def f61b23 : AQ := (.cond (.t 29) f61b22 .skip)
theorem uf61b23 (P ts os Q) : awl P f61b23 Q ts os = awl P (.cond (.t 29) f61b22 .skip) Q ts os := id rfl
def f61r24 : List AI := [⟨none, (.faddr 22 1 (.t 1))⟩, ⟨none, (.load 23 1 false (.t 22))⟩, ⟨none, (.bin 24 .lss (.t 23) (.v (.k (.c (.int .i64 0)))))⟩, ⟨none, (.mov 25 (.t 24))⟩, ⟨(some (25, false)), (.faddr 26 1 (.t 1))⟩, ⟨(some (25, false)), (.load 27 1 false (.t 26))⟩, ⟨(some (25, false)), (.bin 28 .gtr (.t 27) (.v (.k (.c (.int .i64 1)))))⟩, ⟨none, (.pick 29 (.t 25) (.v (.k (.c (.bool true)))) (.t 28))⟩]
theorem uf61r24 : type_of% @f61r24.eq_1 := id @f61r24.eq_1
def f61b25 : AQ := (.seq (.region f61r24) f61b23)
theorem uf61b25 (P ts os Q) : awl P f61b25 Q ts os = awl P (.seq (.region f61r24) f61b23) Q ts os := id rfl
def f61b26 : AQ := (.seq f61b25 f61b20)
theorem uf61b26 (P ts os Q) : awl P f61b26 Q ts os = awl P (.seq f61b25 f61b20) Q ts os := id rfl
def f61b27 : AQ := (.cond (.t 20) f61b26 .skip)
theorem uf61b27 (P ts os Q) : awl P f61b27 Q ts os = awl P (.cond (.t 20) f61b26 .skip) Q ts os := id rfl
def f61r28 : List AI := [⟨none, (.bin 21 .eql (.t 11) (.v (.k (.c (.int .i64 1)))))⟩, ⟨none, (.mov 20 (.t 21))⟩]
theorem uf61r28 : type_of% @f61r28.eq_1 := id @f61r28.eq_1
def f61b29 : AQ := (.seq (.region f61r28) f61b27)
theorem uf61b29 (P ts os Q) : awl P f61b29 Q ts os = awl P (.seq (.region f61r28) f61b27) Q ts os := id rfl
def f61b30 : AQ := (.cond (.t 12) f61b18 f61b29)
theorem uf61b30 (P ts os Q) : awl P f61b30 Q ts os = awl P (.cond (.t 12) f61b18 f61b29) Q ts os := id rfl
def f61r31 : List AI := [⟨none, (.bin 13 .eql (.t 11) (.v (.k (.c (.int .i64 0)))))⟩, ⟨none, (.mov 12 (.t 13))⟩]
theorem uf61r31 : type_of% @f61r31.eq_1 := id @f61r31.eq_1
def f61b32 : AQ := (.seq (.region f61r31) f61b30)
theorem uf61b32 (P ts os Q) : awl P f61b32 Q ts os = awl P (.seq (.region f61r31) f61b30) Q ts os := id rfl
def f61b33 : AQ := (.block 0 f61b32)
theorem uf61b33 (P ts os Q) : awl P f61b33 Q ts os = awl P (.block 0 f61b32) Q ts os := id rfl
def f61r34 : List AI := [⟨none, (.faddr 10 0 (.t 1))⟩, ⟨none, (.load 11 1 false (.t 10))⟩]
theorem uf61r34 : type_of% @f61r34.eq_1 := id @f61r34.eq_1
def f61b35 : AQ := (.seq (.region f61r34) f61b33)
theorem uf61b35 (P ts os Q) : awl P f61b35 Q ts os = awl P (.seq (.region f61r34) f61b33) Q ts os := id rfl
def f61b36 : AQ := (.seq f61b35 f61b10)
theorem uf61b36 (P ts os Q) : awl P f61b36 Q ts os = awl P (.seq f61b35 f61b10) Q ts os := id rfl
def f61r37 : List AI := [⟨none, (.mov 2 (.v (.k (.c (.int .i64 0)))))⟩, ⟨none, (.mov 3 (.v (.k (.c (.int .i64 2)))))⟩]
theorem uf61r37 : type_of% @f61r37.eq_1 := id @f61r37.eq_1
def f61b38 : AQ := (.seq (.region f61r37) .ret)
theorem uf61b38 (P ts os Q) : awl P f61b38 Q ts os = awl P (.seq (.region f61r37) .ret) Q ts os := id rfl
def f61b39 : AQ := (.cond (.t 9) f61b38 .skip)
theorem uf61b39 (P ts os Q) : awl P f61b39 Q ts os = awl P (.cond (.t 9) f61b38 .skip) Q ts os := id rfl
def f61r40 : List AI := [⟨none, (.faddr 6 2 (.t 1))⟩, ⟨none, (.load 7 1 false (.t 6))⟩, ⟨none, (.len 8 (.t 7))⟩, ⟨none, (.bin 9 .gtr (.t 8) (.v (.k (.c (.int .i64 0)))))⟩]
theorem uf61r40 : type_of% @f61r40.eq_1 := id @f61r40.eq_1
def f61b41 : AQ := (.seq (.region f61r40) f61b39)
theorem uf61b41 (P ts os Q) : awl P f61b41 Q ts os = awl P (.seq (.region f61r40) f61b39) Q ts os := id rfl
def f61b42 : AQ := (.seq f61b41 f61b36)
theorem uf61b42 (P ts os Q) : awl P f61b42 Q ts os = awl P (.seq f61b41 f61b36) Q ts os := id rfl
def f61r43 : List AI := [⟨none, (.box 1 50 (.t 0))⟩, ⟨none, (.mov 2 (.v (.k (.c (.int .i64 0)))))⟩, ⟨none, (.mov 3 (.v (.k (.c (.int .i64 0)))))⟩]
theorem uf61r43 : type_of% @f61r43.eq_1 := id @f61r43.eq_1
def f61b44 : AQ := (.seq (.region f61r43) f61b42)
theorem uf61b44 (P ts os Q) : awl P f61b44 Q ts os = awl P (.seq (.region f61r43) f61b42) Q ts os := id rfl
def f61 : AQ := f61b44
theorem uf61 (P ts os Q) : awl P f61 Q ts os = awl P f61b44 Q ts os := id rfl
theorem hf61 : cFunc Tryd.prog 61 = some ⟨39, f61.erase, [(RX.t 2), (RX.t 3)]⟩ := by kernel_rfl
theorem okf61 : f61.ok = true := by kernel_rfl
def f62r1 : List AI := [⟨none, (.bslice 25 3 1 [(.int .i64 0)] 2 [(0, (.v (.k (.c (.int .i64 0))))), (1, (.v (.k (.c (.int .i64 0)))))])⟩, ⟨none, (.build 26 [(.list 0 (some true) []), (.int .i64 0)] [(0, (1, (.t 25))), (1, (1, (.v (.k (.c (.int .i64 0))))))])⟩, ⟨none, (.store 2 (.t 2) (.t 26))⟩]
theorem uf62r1 : type_of% @f62r1.eq_1 := id @f62r1.eq_1
def f62b2 : AQ := (.seq (.region f62r1) .ret)
theorem uf62b2 (P ts os Q) : awl P f62b2 Q ts os = awl P (.seq (.region f62r1) .ret) Q ts os := id rfl
def f62r3 : List AI := [⟨none, (.bslice 6 3 1 [(.int .i64 0)] 1 [(0, (.v (.k (.c (.int .i64 1)))))])⟩, ⟨none, (.build 7 [(.list 0 (some true) []), (.int .i64 0)] [(0, (1, (.t 6))), (1, (1, (.v (.k (.c (.int .i64 1))))))])⟩, ⟨none, (.store 2 (.t 2) (.t 7))⟩]
theorem uf62r3 : type_of% @f62r3.eq_1 := id @f62r3.eq_1
def f62b4 : AQ := (.seq (.region f62r3) .ret)
theorem uf62b4 (P ts os Q) : awl P f62b4 Q ts os = awl P (.seq (.region f62r3) .ret) Q ts os := id rfl
def f62r5 : List AI := [⟨none, (.bslice 11 3 1 [(.int .i64 0)] 2 [(0, (.v (.k (.c (.int .i64 1))))), (1, (.v (.k (.c (.int .i64 1)))))])⟩, ⟨none, (.build 12 [(.list 0 (some true) []), (.int .i64 0)] [(0, (1, (.t 11))), (1, (1, (.v (.k (.c (.int .i64 1))))))])⟩, ⟨none, (.store 2 (.t 2) (.t 12))⟩]
theorem uf62r5 : type_of% @f62r5.eq_1 := id @f62r5.eq_1
def f62b6 : AQ := (.seq (.region f62r5) .ret)
theorem uf62b6 (P ts os Q) : awl P f62b6 Q ts os = awl P (.seq (.region f62r5) .ret) Q ts os := id rfl
def f62r7 : List AI := [⟨none, (.bslice 15 3 1 [(.int .i64 0)] 3 [(0, (.v (.k (.c (.int .i64 1))))), (1, (.v (.k (.c (.int .i64 (-1)))))), (2, (.v (.k (.c (.int .i64 (-1))))))])⟩, (AI.mk none (.build 16 [(.list 0 (some true) []), (.int .i64 0)] [(0, (1, (.t 15))), (1, (1, (.v (.k (.c (.int .i64 (-1)))))))])), ⟨none, (.store 2 (.t 2) (.t 16))⟩]
theorem uf62r7 : type_of% @f62r7.eq_1 := id @f62r7.eq_1
def f62b8 : AQ := (.seq (.region f62r7) .ret)
theorem uf62b8 (P ts os Q) : awl P f62b8 Q ts os = awl P (.seq (.region f62r7) .ret) Q ts os := id rfl
def f62r9 : List AI := [⟨none, (.bslice 19 3 1 [(.int .i64 0)] 2 [(0, (.v (.k (.c (.int .i64 0))))), (1, (.v (.k (.c (.int .i64 0)))))])⟩, ⟨none, (.build 20 [(.list 0 (some true) []), (.int .i64 0)] [(0, (1, (.t 19))), (1, (1, (.v (.k (.c (.int .i64 1))))))])⟩, ⟨none, (.store 2 (.t 2) (.t 20))⟩]
theorem uf62r9 : type_of% @f62r9.eq_1 := id @f62r9.eq_1
def f62b10 : AQ := (.seq (.region f62r9) .ret)
theorem uf62b10 (P ts os Q) : awl P f62b10 Q ts os = awl P (.seq (.region f62r9) .ret) Q ts os := id rfl
def f62r11 : List AI := [⟨none, (.bslice 23 3 1 [(.int .i64 0)] 2 [(0, (.v (.k (.c (.int .i64 (-1)))))), (1, (.v (.k (.c (.int .i64 (-1))))))])⟩, ⟨none, (.build 24 [(.list 0 (some true) []), (.int .i64 0)] [(0, (1, (.t 23))), (1, (1, (.v (.k (.c (.int .i64 1))))))])⟩, ⟨none, (.store 2 (.t 2) (.t 24))⟩]
theorem uf62r11 : type_of% @f62r11.eq_1 := id @f62r11.eq_1
def f62b12 : AQ := (.seq (.region f62r11) .ret)
theorem uf62b12 (P ts os Q) : awl P f62b12 Q ts os = awl P (.seq (.region f62r11) .ret) Q ts os := id rfl
def f62b13 : AQ := (.cond (.t 21) f62b12 .skip)
theorem uf62b13 (P ts os Q) : awl P f62b13 Q ts os = awl P (.cond (.t 21) f62b12 .skip) Q ts os := id rfl
def f62r14 : List AI := [⟨none, (.bin 22 .eql (.t 3) (.v (.k (.c (.int .i64 8)))))⟩, ⟨none, (.mov 21 (.t 22))⟩]
theorem uf62r14 : type_of% @f62r14.eq_1 := id @f62r14.eq_1
def f62b15 : AQ := (.seq (.region f62r14) f62b13)
theorem uf62b15 (P ts os Q) : awl P f62b15 Q ts os = awl P (.seq (.region f62r14) f62b13) Q ts os := id rfl
def f62b16 : AQ := (.cond (.t 17) f62b10 f62b15)
theorem uf62b16 (P ts os Q) : awl P f62b16 Q ts os = awl P (.cond (.t 17) f62b10 f62b15) Q ts os := id rfl
def f62r17 : List AI := [⟨none, (.bin 18 .eql (.t 3) (.v (.k (.c (.int .i64 7)))))⟩, ⟨none, (.mov 17 (.t 18))⟩]
theorem uf62r17 : type_of% @f62r17.eq_1 := id @f62r17.eq_1
def f62b18 : AQ := (.seq (.region f62r17) f62b16)
theorem uf62b18 (P ts os Q) : awl P f62b18 Q ts os = awl P (.seq (.region f62r17) f62b16) Q ts os := id rfl
def f62b19 : AQ := (.cond (.t 13) f62b8 f62b18)
theorem uf62b19 (P ts os Q) : awl P f62b19 Q ts os = awl P (.cond (.t 13) f62b8 f62b18) Q ts os := id rfl
def f62r20 : List AI := [⟨none, (.bin 14 .eql (.t 3) (.v (.k (.c (.int .i64 6)))))⟩, ⟨none, (.mov 13 (.t 14))⟩]
theorem uf62r20 : type_of% @f62r20.eq_1 := id @f62r20.eq_1
def f62b21 : AQ := (.seq (.region f62r20) f62b19)
theorem uf62b21 (P ts os Q) : awl P f62b21 Q ts os = awl P (.seq (.region f62r20) f62b19) Q ts os := id rfl
def f62b22 : AQ := (.cond (.t 8) f62b6 f62b21)
theorem uf62b22 (P ts os Q) : awl P f62b22 Q ts os = awl P (.cond (.t 8) f62b6 f62b21) Q ts os := id rfl
def f62r23 : List AI := [⟨none, (.bin 10 .eql (.t 3) (.v (.k (.c (.int .i64 5)))))⟩, ⟨none, (.mov 8 (.t 10))⟩]
theorem uf62r23 : type_of% @f62r23.eq_1 := id @f62r23.eq_1
def f62b24 : AQ := (.cond (.t 8) .skip (.region f62r23))
theorem uf62b24 (P ts os Q) : awl P f62b24 Q ts os = awl P (.cond (.t 8) .skip (.region f62r23)) Q ts os := id rfl
def f62r25 : List AI := [⟨none, (.bin 9 .eql (.t 3) (.v (.k (.c (.int .i64 4)))))⟩, ⟨none, (.mov 8 (.t 9))⟩]
theorem uf62r25 : type_of% @f62r25.eq_1 := id @f62r25.eq_1
def f62b26 : AQ := (.seq (.region f62r25) f62b24)
theorem uf62b26 (P ts os Q) : awl P f62b26 Q ts os = awl P (.seq (.region f62r25) f62b24) Q ts os := id rfl
def f62b27 : AQ := (.seq f62b26 f62b22)
theorem uf62b27 (P ts os Q) : awl P f62b27 Q ts os = awl P (.seq f62b26 f62b22) Q ts os := id rfl
def f62b28 : AQ := (.cond (.t 4) f62b4 f62b27)
theorem uf62b28 (P ts os Q) : awl P f62b28 Q ts os = awl P (.cond (.t 4) f62b4 f62b27) Q ts os := id rfl
def f62r29 : List AI := [⟨none, (.bin 5 .eql (.t 3) (.v (.k (.c (.int .i64 3)))))⟩, ⟨none, (.mov 4 (.t 5))⟩]
theorem uf62r29 : type_of% @f62r29.eq_1 := id @f62r29.eq_1
def f62b30 : AQ := (.seq (.region f62r29) f62b28)
theorem uf62b30 (P ts os Q) : awl P f62b30 Q ts os = awl P (.seq (.region f62r29) f62b28) Q ts os := id rfl
def f62b31 : AQ := (.block 0 f62b30)
theorem uf62b31 (P ts os Q) : awl P f62b31 Q ts os = awl P (.block 0 f62b30) Q ts os := id rfl
def f62r32 : List AI := [⟨none, (.mov 3 (.t 0))⟩]
theorem uf62r32 : type_of% @f62r32.eq_1 := id @f62r32.eq_1
def f62b33 : AQ := (.seq (.region f62r32) f62b31)
theorem uf62b33 (P ts os Q) : awl P f62b33 Q ts os = awl P (.seq (.region f62r32) f62b31) Q ts os := id rfl
def f62b34 : AQ := (.seq f62b33 f62b2)
theorem uf62b34 (P ts os Q) : awl P f62b34 Q ts os = awl P (.seq f62b33 f62b2) Q ts os := id rfl
def f62r35 : List AI := [⟨none, (.alloc 2 93 [(.list 0 (some true) []), (.int .i64 0)])⟩]
theorem uf62r35 : type_of% @f62r35.eq_1 := id @f62r35.eq_1
def f62b36 : AQ := (.seq (.region f62r35) f62b34)
theorem uf62b36 (P ts os Q) : awl P f62b36 Q ts os = awl P (.seq (.region f62r35) f62b34) Q ts os := id rfl
def f62 : AQ := f62b36
theorem uf62 (P ts os Q) : awl P f62 Q ts os = awl P f62b36 Q ts os := id rfl
theorem hf62 : cFunc Tryd.prog 62 = some ⟨27, f62.erase, [(RX.cell 2 2 true)]⟩ := by kernel_rfl
theorem okf62 : f62.ok = true := by kernel_rfl
def f63r1 : List AI := [⟨none, (.mov 2 (.v (.k (.c (.int .i64 1)))))⟩, ⟨none, (.mov 3 (.v (.k (.c (.bool true)))))⟩]
theorem uf63r1 : type_of% @f63r1.eq_1 := id @f63r1.eq_1
def f63b2 : AQ := (.seq (.region f63r1) .ret)
theorem uf63b2 (P ts os Q) : awl P f63b2 Q ts os = awl P (.seq (.region f63r1) .ret) Q ts os := id rfl
def f63r3 : List AI := [⟨none, (.mov 2 (.v (.k (.c (.int .i64 0)))))⟩, ⟨none, (.mov 3 (.v (.k (.c (.bool false)))))⟩]
theorem uf63r3 : type_of% @f63r3.eq_1 := id @f63r3.eq_1
def f63b4 : AQ := (.seq (.region f63r3) .ret)
theorem uf63b4 (P ts os Q) : awl P f63b4 Q ts os = awl P (.seq (.region f63r3) .ret) Q ts os := id rfl
def f63r5 : List AI := [⟨none, (.mov 2 (.v (.k (.c (.int .i64 0)))))⟩, ⟨none, (.mov 3 (.v (.k (.c (.bool true)))))⟩]
theorem uf63r5 : type_of% @f63r5.eq_1 := id @f63r5.eq_1
def f63b6 : AQ := (.seq (.region f63r5) .ret)
theorem uf63b6 (P ts os Q) : awl P f63b6 Q ts os = awl P (.seq (.region f63r5) .ret) Q ts os := id rfl
def f63b7 : AQ := (.cond (.t 11) f63b6 .skip)
theorem uf63b7 (P ts os Q) : awl P f63b7 Q ts os = awl P (.cond (.t 11) f63b6 .skip) Q ts os := id rfl
def f63r8 : List AI := [⟨none, (.mov 12 (.t 0))⟩, ⟨none, (.bin 13 .lss (.t 12) (.v (.k (.c (.int .i64 7)))))⟩, ⟨none, (.mov 11 (.t 13))⟩]
theorem uf63r8 : type_of% @f63r8.eq_1 := id @f63r8.eq_1
def f63b9 : AQ := (.seq (.region f63r8) f63b7)
theorem uf63b9 (P ts os Q) : awl P f63b9 Q ts os = awl P (.seq (.region f63r8) f63b7) Q ts os := id rfl
def f63b10 : AQ := (.cond (.t 4) f63b4 f63b9)
theorem uf63b10 (P ts os Q) : awl P f63b10 Q ts os = awl P (.cond (.t 4) f63b4 f63b9) Q ts os := id rfl
def f63r11 : List AI := [⟨none, (.mov 5 (.t 0))⟩, ⟨none, (.bin 6 .lss (.t 5) (.v (.k (.c (.int .i64 0)))))⟩, ⟨none, (.mov 7 (.t 6))⟩, ⟨(some (7, false)), (.mov 8 (.t 0))⟩, ⟨(some (7, false)), (.bin 9 .gtr (.t 8) (.v (.k (.c (.int .i64 19)))))⟩, ⟨none, (.pick 10 (.t 7) (.v (.k (.c (.bool true)))) (.t 9))⟩, ⟨none, (.mov 4 (.t 10))⟩]
theorem uf63r11 : type_of% @f63r11.eq_1 := id @f63r11.eq_1
def f63b12 : AQ := (.seq (.region f63r11) f63b10)
theorem uf63b12 (P ts os Q) : awl P f63b12 Q ts os = awl P (.seq (.region f63r11) f63b10) Q ts os := id rfl
def f63b13 : AQ := (.block 0 f63b12)
theorem uf63b13 (P ts os Q) : awl P f63b13 Q ts os = awl P (.block 0 f63b12) Q ts os := id rfl
def f63b14 : AQ := (.seq f63b13 f63b2)
theorem uf63b14 (P ts os Q) : awl P f63b14 Q ts os = awl P (.seq f63b13 f63b2) Q ts os := id rfl
def f63r15 : List AI := [⟨none, (.mov 2 (.v (.k (.c (.int .i64 0)))))⟩, ⟨none, (.mov 3 (.v (.k (.c (.bool false)))))⟩]
theorem uf63r15 : type_of% @f63r15.eq_1 := id @f63r15.eq_1
def f63b16 : AQ := (.seq (.region f63r15) f63b14)
theorem uf63b16 (P ts os Q) : awl P f63b16 Q ts os = awl P (.seq (.region f63r15) f63b14) Q ts os := id rfl
def f63 : AQ := f63b16
theorem uf63 (P ts os Q) : awl P f63 Q ts os = awl P f63b16 Q ts os := id rfl
theorem hf63 : cFunc Tryd.prog 63 = some ⟨14, f63.erase, [(RX.t 2), (RX.t 3)]⟩ := by kernel_rfl
theorem okf63 : f63.ok = true := by kernel_rfl
def f64r1 : List AI := [⟨none, (.build 5 [(.bool false), (.int .i64 0)] [(0, (1, (.v (.k (.c (.bool true))))))])⟩, ⟨none, (.store 2 (.t 2) (.t 5))⟩]
theorem uf64r1 : type_of% @f64r1.eq_1 := id @f64r1.eq_1
def f64b2 : AQ := (.seq (.region f64r1) .ret)
theorem uf64b2 (P ts os Q) : awl P f64b2 Q ts os = awl P (.seq (.region f64r1) .ret) Q ts os := id rfl
def f64r3 : List AI := [⟨none, (.build 4 [(.bool false), (.int .i64 0)] [(0, (1, (.v (.k (.c (.bool true)))))), (1, (1, (.v (.k (.c (.int .i64 1))))))])⟩, ⟨none, (.store 2 (.t 2) (.t 4))⟩]
theorem uf64r3 : type_of% @f64r3.eq_1 := id @f64r3.eq_1
def f64b4 : AQ := (.seq (.region f64r3) .ret)
theorem uf64b4 (P ts os Q) : awl P f64b4 Q ts os = awl P (.seq (.region f64r3) .ret) Q ts os := id rfl
def f64b5 : AQ := (.cond (.t 3) f64b4 .skip)
theorem uf64b5 (P ts os Q) : awl P f64b5 Q ts os = awl P (.cond (.t 3) f64b4 .skip) Q ts os := id rfl
def f64r6 : List AI := [⟨none, (.mov 3 (.t 0))⟩]
theorem uf64r6 : type_of% @f64r6.eq_1 := id @f64r6.eq_1
def f64b7 : AQ := (.seq (.region f64r6) f64b5)
theorem uf64b7 (P ts os Q) : awl P f64b7 Q ts os = awl P (.seq (.region f64r6) f64b5) Q ts os := id rfl
def f64b8 : AQ := (.seq f64b7 f64b2)
theorem uf64b8 (P ts os Q) : awl P f64b8 Q ts os = awl P (.seq f64b7 f64b2) Q ts os := id rfl
def f64r9 : List AI := [⟨none, (.alloc 2 30 [(.bool false), (.int .i64 0)])⟩]
theorem uf64r9 : type_of% @f64r9.eq_1 := id @f64r9.eq_1
def f64b10 : AQ := (.seq (.region f64r9) f64b8)
theorem uf64b10 (P ts os Q) : awl P f64b10 Q ts os = awl P (.seq (.region f64r9) f64b8) Q ts os := id rfl
def f64 : AQ := f64b10
theorem uf64 (P ts os Q) : awl P f64 Q ts os = awl P f64b10 Q ts os := id rfl
theorem hf64 : cFunc Tryd.prog 64 = some ⟨6, f64.erase, [(RX.cell 2 2 true)]⟩ := by kernel_rfl
theorem okf64 : f64.ok = true := by kernel_rfl
def f65r1 : List AI := [⟨none, (.mov 3 (.t 0))⟩, ⟨none, (.minmax 4 true (.t 3) [(.v (.k (.c (.int .i64 (-1099511627776)))))])⟩, ⟨none, (.minmax 5 false (.t 4) [(.v (.k (.c (.int .i64 1099511627776))))])⟩, ⟨none, (.mov 2 (.t 5))⟩]
theorem uf65r1 : type_of% @f65r1.eq_1 := id @f65r1.eq_1
def f65b2 : AQ := (.seq (.region f65r1) .ret)
theorem uf65b2 (P ts os Q) : awl P f65b2 Q ts os = awl P (.seq (.region f65r1) .ret) Q ts os := id rfl
def f65r3 : List AI := [⟨none, (.mov 2 (.v (.k (.c (.int .i64 0)))))⟩]
theorem uf65r3 : type_of% @f65r3.eq_1 := id @f65r3.eq_1
def f65b4 : AQ := (.seq (.region f65r3) f65b2)
theorem uf65b4 (P ts os Q) : awl P f65b4 Q ts os = awl P (.seq (.region f65r3) f65b2) Q ts os := id rfl
def f65 : AQ := f65b4
theorem uf65 (P ts os Q) : awl P f65 Q ts os = awl P f65b4 Q ts os := id rfl
theorem hf65 : cFunc Tryd.prog 65 = some ⟨6, f65.erase, [(RX.t 2)]⟩ := by kernel_rfl
theorem okf65 : f65.ok = true := by kernel_rfl
def f66r1 : List AI := [⟨none, (.mov 30 (.t 1))⟩, ⟨none, (.mov 31 (.t 2))⟩, ⟨none, (.minmax 32 true (.t 30) [(.t 31)])⟩, ⟨none, (.mov 6 (.t 32))⟩]
theorem uf66r1 : type_of% @f66r1.eq_1 := id @f66r1.eq_1
def f66b2 : AQ := (.seq (.region f66r1) .ret)
theorem uf66b2 (P ts os Q) : awl P f66b2 Q ts os = awl P (.seq (.region f66r1) .ret) Q ts os := id rfl
def f66r3 : List AI := [⟨none, (.mov 10 (.t 1))⟩, ⟨none, (.mov 11 (.t 2))⟩, ⟨none, (.bin 12 .add (.t 10) (.t 11))⟩, ⟨none, (.call (some 13) 65 [(.t 12)])⟩, ⟨none, (.mov 6 (.t 13))⟩]
theorem uf66r3 : type_of% @f66r3.eq_1 := id @f66r3.eq_1
def f66b4 : AQ := (.seq (.region f66r3) .ret)
theorem uf66b4 (P ts os Q) : awl P f66b4 Q ts os = awl P (.seq (.region f66r3) .ret) Q ts os := id rfl
def f66r5 : List AI := [⟨none, (.mov 16 (.t 1))⟩, ⟨none, (.mov 17 (.t 2))⟩, ⟨none, (.bin 18 .sub (.t 16) (.t 17))⟩, ⟨none, (.call (some 19) 65 [(.t 18)])⟩, ⟨none, (.mov 6 (.t 19))⟩]
theorem uf66r5 : type_of% @f66r5.eq_1 := id @f66r5.eq_1
def f66b6 : AQ := (.seq (.region f66r5) .ret)
theorem uf66b6 (P ts os Q) : awl P f66b6 Q ts os = awl P (.seq (.region f66r5) .ret) Q ts os := id rfl
def f66r7 : List AI := [⟨none, (.mov 22 (.t 1))⟩, ⟨none, (.mov 23 (.t 2))⟩, ⟨none, (.call (some 24) 86 [(.t 22), (.t 23)])⟩, ⟨none, (.mov 6 (.t 24))⟩]
theorem uf66r7 : type_of% @f66r7.eq_1 := id @f66r7.eq_1
def f66b8 : AQ := (.seq (.region f66r7) .ret)
theorem uf66b8 (P ts os Q) : awl P f66b8 Q ts os = awl P (.seq (.region f66r7) .ret) Q ts os := id rfl
def f66r9 : List AI := [⟨none, (.mov 27 (.t 1))⟩, ⟨none, (.mov 28 (.t 2))⟩, ⟨none, (.minmax 29 false (.t 27) [(.t 28)])⟩, ⟨none, (.mov 6 (.t 29))⟩]
theorem uf66r9 : type_of% @f66r9.eq_1 := id @f66r9.eq_1
def f66b10 : AQ := (.seq (.region f66r9) .ret)
theorem uf66b10 (P ts os Q) : awl P f66b10 Q ts os = awl P (.seq (.region f66r9) .ret) Q ts os := id rfl
def f66b11 : AQ := (.cond (.t 25) f66b10 .skip)
theorem uf66b11 (P ts os Q) : awl P f66b11 Q ts os = awl P (.cond (.t 25) f66b10 .skip) Q ts os := id rfl
def f66r12 : List AI := [⟨none, (.bin 26 .eql (.t 7) (.v (.k (.c (.int .i64 12)))))⟩, ⟨none, (.mov 25 (.t 26))⟩]
theorem uf66r12 : type_of% @f66r12.eq_1 := id @f66r12.eq_1
def f66b13 : AQ := (.seq (.region f66r12) f66b11)
theorem uf66b13 (P ts os Q) : awl P f66b13 Q ts os = awl P (.seq (.region f66r12) f66b11) Q ts os := id rfl
def f66b14 : AQ := (.cond (.t 20) f66b8 f66b13)
theorem uf66b14 (P ts os Q) : awl P f66b14 Q ts os = awl P (.cond (.t 20) f66b8 f66b13) Q ts os := id rfl
def f66r15 : List AI := [⟨none, (.bin 21 .eql (.t 7) (.v (.k (.c (.int .i64 11)))))⟩, ⟨none, (.mov 20 (.t 21))⟩]
theorem uf66r15 : type_of% @f66r15.eq_1 := id @f66r15.eq_1
def f66b16 : AQ := (.seq (.region f66r15) f66b14)
theorem uf66b16 (P ts os Q) : awl P f66b16 Q ts os = awl P (.seq (.region f66r15) f66b14) Q ts os := id rfl
def f66b17 : AQ := (.cond (.t 14) f66b6 f66b16)
theorem uf66b17 (P ts os Q) : awl P f66b17 Q ts os = awl P (.cond (.t 14) f66b6 f66b16) Q ts os := id rfl
def f66r18 : List AI := [⟨none, (.bin 15 .eql (.t 7) (.v (.k (.c (.int .i64 10)))))⟩, ⟨none, (.mov 14 (.t 15))⟩]
theorem uf66r18 : type_of% @f66r18.eq_1 := id @f66r18.eq_1
def f66b19 : AQ := (.seq (.region f66r18) f66b17)
theorem uf66b19 (P ts os Q) : awl P f66b19 Q ts os = awl P (.seq (.region f66r18) f66b17) Q ts os := id rfl
def f66b20 : AQ := (.cond (.t 8) f66b4 f66b19)
theorem uf66b20 (P ts os Q) : awl P f66b20 Q ts os = awl P (.cond (.t 8) f66b4 f66b19) Q ts os := id rfl
def f66r21 : List AI := [⟨none, (.bin 9 .eql (.t 7) (.v (.k (.c (.int .i64 9)))))⟩, ⟨none, (.mov 8 (.t 9))⟩]
theorem uf66r21 : type_of% @f66r21.eq_1 := id @f66r21.eq_1
def f66b22 : AQ := (.seq (.region f66r21) f66b20)
theorem uf66b22 (P ts os Q) : awl P f66b22 Q ts os = awl P (.seq (.region f66r21) f66b20) Q ts os := id rfl
def f66b23 : AQ := (.block 0 f66b22)
theorem uf66b23 (P ts os Q) : awl P f66b23 Q ts os = awl P (.block 0 f66b22) Q ts os := id rfl
def f66r24 : List AI := [⟨none, (.mov 7 (.t 0))⟩]
theorem uf66r24 : type_of% @f66r24.eq_1 := id @f66r24.eq_1
def f66b25 : AQ := (.seq (.region f66r24) f66b23)
theorem uf66b25 (P ts os Q) : awl P f66b25 Q ts os = awl P (.seq (.region f66r24) f66b23) Q ts os := id rfl
def f66b26 : AQ := (.seq f66b25 f66b2)
theorem uf66b26 (P ts os Q) : awl P f66b26 Q ts os = awl P (.seq f66b25 f66b2) Q ts os := id rfl
def f66r27 : List AI := [⟨none, (.mov 6 (.v (.k (.c (.int .i64 0)))))⟩]
theorem uf66r27 : type_of% @f66r27.eq_1 := id @f66r27.eq_1
def f66b28 : AQ := (.seq (.region f66r27) f66b26)
theorem uf66b28 (P ts os Q) : awl P f66b28 Q ts os = awl P (.seq (.region f66r27) f66b26) Q ts os := id rfl
def f66 : AQ := f66b28
theorem uf66 (P ts os Q) : awl P f66 Q ts os = awl P f66b28 Q ts os := id rfl
theorem hf66 : cFunc Tryd.prog 66 = some ⟨33, f66.erase, [(RX.t 6)]⟩ := by kernel_rfl
theorem okf66 : f66.ok = true := by kernel_rfl
def f86r1 : List AI := [⟨none, (.mov 37 (.t 7))⟩, ⟨none, (.mov 4 (.t 37))⟩]
theorem uf86r1 : type_of% @f86r1.eq_1 := id @f86r1.eq_1
def f86b2 : AQ := (.seq (.region f86r1) .ret)
theorem uf86b2 (P ts os Q) : awl P f86b2 Q ts os = awl P (.seq (.region f86r1) .ret) Q ts os := id rfl
def f86r3 : List AI := [⟨none, (.mov 35 (.t 7))⟩, ⟨none, (.un 36 .neg (.t 35))⟩, ⟨none, (.mov 4 (.t 36))⟩]
theorem uf86r3 : type_of% @f86r3.eq_1 := id @f86r3.eq_1
def f86b4 : AQ := (.seq (.region f86r3) .ret)
theorem uf86b4 (P ts os Q) : awl P f86b4 Q ts os = awl P (.seq (.region f86r3) .ret) Q ts os := id rfl
def f86b5 : AQ := (.cond (.t 34) f86b4 .skip)
theorem uf86b5 (P ts os Q) : awl P f86b5 Q ts os = awl P (.cond (.t 34) f86b4 .skip) Q ts os := id rfl
def f86r6 : List AI := [⟨none, (.mov 30 (.t 0))⟩, ⟨none, (.bin 31 .lss (.t 30) (.v (.k (.c (.int .i64 0)))))⟩, ⟨none, (.mov 32 (.t 1))⟩, ⟨none, (.bin 33 .lss (.t 32) (.v (.k (.c (.int .i64 0)))))⟩, ⟨none, (.binB 34 true (.t 31) (.t 33))⟩]
theorem uf86r6 : type_of% @f86r6.eq_1 := id @f86r6.eq_1
def f86b7 : AQ := (.seq (.region f86r6) f86b5)
theorem uf86b7 (P ts os Q) : awl P f86b7 Q ts os = awl P (.seq (.region f86r6) f86b5) Q ts os := id rfl
def f86b8 : AQ := (.seq f86b7 f86b2)
theorem uf86b8 (P ts os Q) : awl P f86b8 Q ts os = awl P (.seq f86b7 f86b2) Q ts os := id rfl
def f86r9 : List AI := [⟨none, (.mov 28 (.t 6))⟩, ⟨none, (.conv 29 .i64 (.t 28))⟩, ⟨none, (.mov 7 (.t 29))⟩]
theorem uf86r9 : type_of% @f86r9.eq_1 := id @f86r9.eq_1
def f86b10 : AQ := (.cond (.t 27) (.region f86r9) .skip)
theorem uf86b10 (P ts os Q) : awl P f86b10 Q ts os = awl P (.cond (.t 27) (.region f86r9) .skip) Q ts os := id rfl
def f86r11 : List AI := [⟨none, (.mov 22 (.t 5))⟩, ⟨none, (.bin 23 .eql (.t 22) (.v (.k (.c (.int .u64 0)))))⟩, ⟨none, (.mov 24 (.t 23))⟩, ⟨(some (24, true)), (.mov 25 (.t 6))⟩, ⟨(some (24, true)), (.bin 26 .lss (.t 25) (.v (.k (.c (.int .u64 1099511627776)))))⟩, ⟨none, (.pick 27 (.t 24) (.t 26) (.v (.k (.c (.bool false)))))⟩]
theorem uf86r11 : type_of% @f86r11.eq_1 := id @f86r11.eq_1
def f86b12 : AQ := (.seq (.region f86r11) f86b10)
theorem uf86b12 (P ts os Q) : awl P f86b12 Q ts os = awl P (.seq (.region f86r11) f86b10) Q ts os := id rfl
def f86b13 : AQ := (.seq f86b12 f86b8)
theorem uf86b13 (P ts os Q) : awl P f86b13 Q ts os = awl P (.seq f86b12 f86b8) Q ts os := id rfl
def f86r14 : List AI := [⟨none, (.mov 7 (.v (.k (.c (.int .i64 1099511627776)))))⟩]
theorem uf86r14 : type_of% @f86r14.eq_1 := id @f86r14.eq_1
def f86b15 : AQ := (.seq (.region f86r14) f86b13)
theorem uf86b15 (P ts os Q) : awl P f86b15 Q ts os = awl P (.seq (.region f86r14) f86b13) Q ts os := id rfl
def f86r16 : List AI := [⟨none, (.mov 9 (.t 0))⟩, ⟨none, (.mov 10 (.t 0))⟩, ⟨none, (.un 11 .neg (.t 10))⟩, ⟨none, (.minmax 12 true (.t 9) [(.t 11)])⟩, ⟨none, (.conv 13 .u64 (.t 12))⟩, ⟨none, (.mov 14 (.t 1))⟩, ⟨none, (.mov 15 (.t 1))⟩, ⟨none, (.un 16 .neg (.t 15))⟩, ⟨none, (.minmax 17 true (.t 14) [(.t 16)])⟩, ⟨none, (.conv 18 .u64 (.t 17))⟩, ⟨none, (.call (some 19) 93 [(.t 13), (.t 18)])⟩, ⟨none, (.mov 8 (.t 19))⟩, ⟨none, (.extr 20 (.t 8) 0)⟩, ⟨none, (.extr 21 (.t 8) 1)⟩, ⟨none, (.mov 5 (.t 20))⟩, ⟨none, (.mov 6 (.t 21))⟩]
theorem uf86r16 : type_of% @f86r16.eq_1 := id @f86r16.eq_1
def f86b17 : AQ := (.seq (.region f86r16) f86b15)
theorem uf86b17 (P ts os Q) : awl P f86b17 Q ts os = awl P (.seq (.region f86r16) f86b15) Q ts os := id rfl
def f86r18 : List AI := [⟨none, (.mov 4 (.v (.k (.c (.int .i64 0)))))⟩]
theorem uf86r18 : type_of% @f86r18.eq_1 := id @f86r18.eq_1
def f86b19 : AQ := (.seq (.region f86r18) f86b17)
theorem uf86b19 (P ts os Q) : awl P f86b19 Q ts os = awl P (.seq (.region f86r18) f86b17) Q ts os := id rfl
def f86 : AQ := f86b19
theorem uf86 (P ts os Q) : awl P f86 Q ts os = awl P f86b19 Q ts os := id rfl
theorem hf86 : cFunc Tryd.prog 86 = some ⟨38, f86.erase, [(RX.t 4)]⟩ := by kernel_rfl
theorem okf86 : f86.ok = true := by kernel_rfl
def f93r1 : List AI := [⟨none, (.mov 48 (.t 0))⟩, ⟨none, (.mov 49 (.t 1))⟩, ⟨none, (.bin 50 .mul (.t 48) (.t 49))⟩, ⟨none, (.mov 5 (.t 50))⟩]
theorem uf93r1 : type_of% @f93r1.eq_1 := id @f93r1.eq_1
def f93b2 : AQ := (.seq (.region f93r1) .ret)
theorem uf93b2 (P ts os Q) : awl P f93b2 Q ts os = awl P (.seq (.region f93r1) .ret) Q ts os := id rfl
def f93r3 : List AI := [⟨none, (.mov 40 (.t 7))⟩, ⟨none, (.mov 41 (.t 9))⟩, ⟨none, (.bin 42 .mul (.t 40) (.t 41))⟩, ⟨none, (.mov 43 (.t 13))⟩, ⟨none, (.bin 44 .add (.t 42) (.t 43))⟩, ⟨none, (.mov 45 (.t 12))⟩, ⟨none, (.bin 46 .shr (.t 45) (.v (.k (.c (.int .u64 32)))))⟩, ⟨none, (.bin 47 .add (.t 44) (.t 46))⟩, ⟨none, (.mov 4 (.t 47))⟩]
theorem uf93r3 : type_of% @f93r3.eq_1 := id @f93r3.eq_1
def f93b4 : AQ := (.seq (.region f93r3) f93b2)
theorem uf93b4 (P ts os Q) : awl P f93b4 Q ts os = awl P (.seq (.region f93r3) f93b2) Q ts os := id rfl
def f93r5 : List AI := [⟨none, (.mov 35 (.t 12))⟩, ⟨none, (.mov 36 (.t 6))⟩, ⟨none, (.mov 37 (.t 9))⟩, ⟨none, (.bin 38 .mul (.t 36) (.t 37))⟩, ⟨none, (.bin 39 .add (.t 35) (.t 38))⟩, ⟨none, (.mov 12 (.t 39))⟩]
theorem uf93r5 : type_of% @f93r5.eq_1 := id @f93r5.eq_1
def f93b6 : AQ := (.seq (.region f93r5) f93b4)
theorem uf93b6 (P ts os Q) : awl P f93b6 Q ts os = awl P (.seq (.region f93r5) f93b4) Q ts os := id rfl
def f93r7 : List AI := [⟨none, (.mov 33 (.t 11))⟩, ⟨none, (.bin 34 .shr (.t 33) (.v (.k (.c (.int .u64 32)))))⟩, ⟨none, (.mov 13 (.t 34))⟩]
theorem uf93r7 : type_of% @f93r7.eq_1 := id @f93r7.eq_1
def f93b8 : AQ := (.seq (.region f93r7) f93b6)
theorem uf93b8 (P ts os Q) : awl P f93b8 Q ts os = awl P (.seq (.region f93r7) f93b6) Q ts os := id rfl
def f93r9 : List AI := [⟨none, (.mov 31 (.t 11))⟩, ⟨none, (.bin 32 .and (.t 31) (.v (.k (.c (.int .u64 4294967295)))))⟩, ⟨none, (.mov 12 (.t 32))⟩]
theorem uf93r9 : type_of% @f93r9.eq_1 := id @f93r9.eq_1
def f93b10 : AQ := (.seq (.region f93r9) f93b8)
theorem uf93b10 (P ts os Q) : awl P f93b10 Q ts os = awl P (.seq (.region f93r9) f93b8) Q ts os := id rfl
def f93r11 : List AI := [⟨none, (.mov 25 (.t 7))⟩, ⟨none, (.mov 26 (.t 8))⟩, ⟨none, (.bin 27 .mul (.t 25) (.t 26))⟩, ⟨none, (.mov 28 (.t 10))⟩, ⟨none, (.bin 29 .shr (.t 28) (.v (.k (.c (.int .u64 32)))))⟩, ⟨none, (.bin 30 .add (.t 27) (.t 29))⟩, ⟨none, (.mov 11 (.t 30))⟩]
theorem uf93r11 : type_of% @f93r11.eq_1 := id @f93r11.eq_1
def f93b12 : AQ := (.seq (.region f93r11) f93b10)
theorem uf93b12 (P ts os Q) : awl P f93b12 Q ts os = awl P (.seq (.region f93r11) f93b10) Q ts os := id rfl
def f93r13 : List AI := [⟨none, (.mov 22 (.t 6))⟩, ⟨none, (.mov 23 (.t 8))⟩, ⟨none, (.bin 24 .mul (.t 22) (.t 23))⟩, ⟨none, (.mov 10 (.t 24))⟩]
theorem uf93r13 : type_of% @f93r13.eq_1 := id @f93r13.eq_1
def f93b14 : AQ := (.seq (.region f93r13) f93b12)
theorem uf93b14 (P ts os Q) : awl P f93b14 Q ts os = awl P (.seq (.region f93r13) f93b12) Q ts os := id rfl
def f93r15 : List AI := [⟨none, (.mov 20 (.t 1))⟩, ⟨none, (.bin 21 .shr (.t 20) (.v (.k (.c (.int .u64 32)))))⟩, ⟨none, (.mov 9 (.t 21))⟩]
theorem uf93r15 : type_of% @f93r15.eq_1 := id @f93r15.eq_1
def f93b16 : AQ := (.seq (.region f93r15) f93b14)
theorem uf93b16 (P ts os Q) : awl P f93b16 Q ts os = awl P (.seq (.region f93r15) f93b14) Q ts os := id rfl
def f93r17 : List AI := [⟨none, (.mov 18 (.t 1))⟩, ⟨none, (.bin 19 .and (.t 18) (.v (.k (.c (.int .u64 4294967295)))))⟩, ⟨none, (.mov 8 (.t 19))⟩]
theorem uf93r17 : type_of% @f93r17.eq_1 := id @f93r17.eq_1
def f93b18 : AQ := (.seq (.region f93r17) f93b16)
theorem uf93b18 (P ts os Q) : awl P f93b18 Q ts os = awl P (.seq (.region f93r17) f93b16) Q ts os := id rfl
def f93r19 : List AI := [⟨none, (.mov 16 (.t 0))⟩, ⟨none, (.bin 17 .shr (.t 16) (.v (.k (.c (.int .u64 32)))))⟩, ⟨none, (.mov 7 (.t 17))⟩]
theorem uf93r19 : type_of% @f93r19.eq_1 := id @f93r19.eq_1
def f93b20 : AQ := (.seq (.region f93r19) f93b18)
theorem uf93b20 (P ts os Q) : awl P f93b20 Q ts os = awl P (.seq (.region f93r19) f93b18) Q ts os := id rfl
def f93r21 : List AI := [⟨none, (.mov 14 (.t 0))⟩, ⟨none, (.bin 15 .and (.t 14) (.v (.k (.c (.int .u64 4294967295)))))⟩, ⟨none, (.mov 6 (.t 15))⟩]
theorem uf93r21 : type_of% @f93r21.eq_1 := id @f93r21.eq_1
def f93b22 : AQ := (.seq (.region f93r21) f93b20)
theorem uf93b22 (P ts os Q) : awl P f93b22 Q ts os = awl P (.seq (.region f93r21) f93b20) Q ts os := id rfl
def f93r23 : List AI := [⟨none, (.mov 4 (.v (.k (.c (.int .u64 0)))))⟩, ⟨none, (.mov 5 (.v (.k (.c (.int .u64 0)))))⟩]
theorem uf93r23 : type_of% @f93r23.eq_1 := id @f93r23.eq_1
def f93b24 : AQ := (.seq (.region f93r23) f93b22)
theorem uf93b24 (P ts os Q) : awl P f93b24 Q ts os = awl P (.seq (.region f93r23) f93b22) Q ts os := id rfl
def f93 : AQ := f93b24
theorem uf93 (P ts os Q) : awl P f93 Q ts os = awl P f93b24 Q ts os := id rfl
theorem hf93 : cFunc Tryd.prog 93 = some ⟨51, f93.erase, [(RX.t 4), (RX.t 5)]⟩ := by kernel_rfl
theorem okf93 : f93.ok = true := by kernel_rfl
def f4r1 : List AI := [⟨none, (.mov 75 (.t 9))⟩, ⟨none, (.mov 76 (.t 75))⟩, ⟨(some (76, true)), (.faddr 77 0 (.t 10))⟩, ⟨(some (76, true)), (.load 78 1 false (.t 77))⟩, ⟨(some (76, true)), (.un 79 .not (.t 78))⟩, ⟨(some (76, true)), (.mov 80 (.t 79))⟩, ⟨(some (80, false)), (.load 81 2 true (.t 10))⟩, ⟨(some (80, false)), (.load 82 2 true (.t 12))⟩, ⟨(some (80, false)), (.eqAgg 83 false [.bool, .int] (.t 81) (.t 82))⟩, ⟨(some (76, true)), (.pick 84 (.t 80) (.v (.k (.c (.bool true)))) (.t 83))⟩, ⟨none, (.pick 85 (.t 76) (.t 84) (.v (.k (.c (.bool false)))))⟩, ⟨none, (.mov 86 (.t 85))⟩, ⟨(some (86, true)), (.faddr 87 0 (.t 10))⟩, ⟨(some (86, true)), (.load 88 1 false (.t 87))⟩, ⟨(some (86, true)), (.mov 89 (.t 14))⟩, ⟨(some (86, true)), (.len 90 (.t 89))⟩, ⟨(some (86, true)), (.bin 91 .eql (.t 90) (.v (.k (.c (.int .i64 0)))))⟩, ⟨(some (86, true)), (.binB 92 false (.t 88) (.t 91))⟩, ⟨none, (.pick 93 (.t 86) (.t 92) (.v (.k (.c (.bool false)))))⟩, ⟨none, (.mov 94 (.t 93))⟩, ⟨(some (94, true)), (.faddr 95 0 (.t 10))⟩, ⟨(some (94, true)), (.load 96 1 false (.t 95))⟩, ⟨(some (94, true)), (.mov 97 (.t 96))⟩, ⟨(some (97, false)), (.faddr 98 1 (.t 10))⟩, ⟨(some (97, false)), (.load 99 1 false (.t 98))⟩, ⟨(some (97, false)), (.bin 100 .eql (.t 99) (.v (.k (.c (.int .i64 0)))))⟩, ⟨(some (94, true)), (.pick 101 (.t 97) (.v (.k (.c (.bool true)))) (.t 100))⟩, ⟨none, (.pick 102 (.t 94) (.t 101) (.v (.k (.c (.bool false)))))⟩, ⟨none, (.mov 8 (.t 102))⟩]
theorem uf4r1 : type_of% @f4r1.eq_1 := id @f4r1.eq_1
def f4b2 : AQ := (.seq (.region f4r1) .ret)
theorem uf4b2 (P ts os Q) : awl P f4b2 Q ts os = awl P (.seq (.region f4r1) .ret) Q ts os := id rfl
def f4r3 : List AI := [⟨none, (.mov 74 (.t 9))⟩, ⟨none, (.mov 8 (.t 74))⟩]
theorem uf4r3 : type_of% @f4r3.eq_1 := id @f4r3.eq_1
def f4b4 : AQ := (.seq (.region f4r3) .ret)
theorem uf4b4 (P ts os Q) : awl P f4b4 Q ts os = awl P (.seq (.region f4r3) .ret) Q ts os := id rfl
def f4b5 : AQ := (.cond (.t 73) f4b4 .skip)
theorem uf4b5 (P ts os Q) : awl P f4b5 Q ts os = awl P (.cond (.t 73) f4b4 .skip) Q ts os := id rfl
def f4r6 : List AI := [⟨none, (.mov 72 (.t 11))⟩, ⟨none, (.bin 73 .neq (.t 72) (.v (.k (.c (.int .i64 0)))))⟩]
theorem uf4r6 : type_of% @f4r6.eq_1 := id @f4r6.eq_1
def f4b7 : AQ := (.seq (.region f4r6) f4b5)
theorem uf4b7 (P ts os Q) : awl P f4b7 Q ts os = awl P (.seq (.region f4r6) f4b5) Q ts os := id rfl
def f4b8 : AQ := (.seq f4b7 f4b2)
theorem uf4b8 (P ts os Q) : awl P f4b8 Q ts os = awl P (.seq f4b7 f4b2) Q ts os := id rfl
def f4r9 : List AI := [⟨none, (.mov 8 (.v (.k (.c (.bool false)))))⟩]
theorem uf4r9 : type_of% @f4r9.eq_1 := id @f4r9.eq_1
def f4b10 : AQ := (.seq (.region f4r9) .ret)
theorem uf4b10 (P ts os Q) : awl P f4b10 Q ts os = awl P (.seq (.region f4r9) .ret) Q ts os := id rfl
def f4b11 : AQ := (.cond (.t 71) f4b10 .skip)
theorem uf4b11 (P ts os Q) : awl P f4b11 Q ts os = awl P (.cond (.t 71) f4b10 .skip) Q ts os := id rfl
def f4r12 : List AI := [⟨none, (.mov 50 (.t 11))⟩, ⟨none, (.mov 51 (.t 13))⟩, ⟨none, (.bin 52 .neq (.t 50) (.t 51))⟩, ⟨none, (.mov 53 (.t 52))⟩, ⟨(some (53, false)), (.mov 54 (.t 11))⟩, ⟨(some (53, false)), (.bin 55 .neq (.t 54) (.v (.k (.c (.int .i64 0)))))⟩, ⟨(some (53, false)), (.mov 56 (.t 55))⟩, ⟨(some (56, true)), (.load 57 2 true (.t 10))⟩, ⟨(some (56, true)), (.build 58 [(.bool false), (.int .i64 0)] [])⟩, ⟨(some (56, true)), (.eqAgg 59 true [.bool, .int] (.t 57) (.t 58))⟩, ⟨(some (56, true)), (.mov 60 (.t 59))⟩, ⟨(some (60, false)), (.load 61 2 true (.t 12))⟩, ⟨(some (60, false)), (.load 62 2 true (.t 10))⟩, ⟨(some (60, false)), (.eqAgg 63 true [.bool, .int] (.t 61) (.t 62))⟩, ⟨(some (56, true)), (.pick 64 (.t 60) (.v (.k (.c (.bool true)))) (.t 63))⟩, ⟨(some (56, true)), (.mov 65 (.t 64))⟩, ⟨(some (65, false)), (.mov 66 (.t 14))⟩, ⟨(some (65, false)), (.len 67 (.t 66))⟩, ⟨(some (65, false)), (.bin 68 .neq (.t 67) (.v (.k (.c (.int .i64 0)))))⟩, ⟨(some (56, true)), (.pick 69 (.t 65) (.v (.k (.c (.bool true)))) (.t 68))⟩, ⟨(some (53, false)), (.pick 70 (.t 56) (.t 69) (.v (.k (.c (.bool false)))))⟩, ⟨none, (.pick 71 (.t 53) (.v (.k (.c (.bool true)))) (.t 70))⟩]
theorem uf4r12 : type_of% @f4r12.eq_1 := id @f4r12.eq_1
def f4b13 : AQ := (.seq (.region f4r12) f4b11)
theorem uf4b13 (P ts os Q) : awl P f4b13 Q ts os = awl P (.seq (.region f4r12) f4b11) Q ts os := id rfl
def f4b14 : AQ := (.seq f4b13 f4b8)
theorem uf4b14 (P ts os Q) : awl P f4b14 Q ts os = awl P (.seq f4b13 f4b8) Q ts os := id rfl
def f4r15 : List AI := [⟨none, (.load 46 4 true (.t 4))⟩, ⟨none, (.mov 47 (.t 1))⟩, ⟨none, (.mov 48 (.t 2))⟩, ⟨none, (.call (some 49) 16 [(.t 46), (.t 47), (.t 48)])⟩, ⟨none, (.mov 14 (.t 49))⟩]
theorem uf4r15 : type_of% @f4r15.eq_1 := id @f4r15.eq_1
def f4b16 : AQ := (.seq (.region f4r15) f4b14)
theorem uf4b16 (P ts os Q) : awl P f4b16 Q ts os = awl P (.seq (.region f4r15) f4b14) Q ts os := id rfl
def f4r17o0 : AI := ⟨none, (.load 38 4 true (.t 4))⟩
theorem uf4r17o0 : f4r17o0 = ⟨none, (.load 38 4 true (.t 4))⟩ := id rfl
def f4r17o1 : AI := ⟨none, (.mov 39 (.t 1))⟩
theorem uf4r17o1 : f4r17o1 = ⟨none, (.mov 39 (.t 1))⟩ := id rfl
def f4r17o2 : AI := ⟨none, (.mov 40 (.t 2))⟩
theorem uf4r17o2 : f4r17o2 = ⟨none, (.mov 40 (.t 2))⟩ := id rfl
def f4r17o3 : AI := ⟨none, (.mov 41 (.t 3))⟩
theorem uf4r17o3 : f4r17o3 = ⟨none, (.mov 41 (.t 3))⟩ := id rfl
def f4r17o4 : AI := ⟨none, (.call (some 42) 20 [(.t 40), (.t 41)])⟩
theorem uf4r17o4 : f4r17o4 = ⟨none, (.call (some 42) 20 [(.t 40), (.t 41)])⟩ := id rfl
def f4r17o5 : AI := ⟨none, (.call (some 43) 9 [(.t 38), (.t 39), (.t 42)])⟩
theorem uf4r17o5 : f4r17o5 = ⟨none, (.call (some 43) 9 [(.t 38), (.t 39), (.t 42)])⟩ := id rfl
def f4r17o6 : AI := ⟨none, (.mov 37 (.t 43))⟩
theorem uf4r17o6 : f4r17o6 = ⟨none, (.mov 37 (.t 43))⟩ := id rfl
def f4r17o7 : AI := ⟨none, (.extr 44 (.t 37) 0)⟩
theorem uf4r17o7 : f4r17o7 = ⟨none, (.extr 44 (.t 37) 0)⟩ := id rfl
def f4r17o8 : AI := ⟨none, (.extr 45 (.t 37) 1)⟩
theorem uf4r17o8 : f4r17o8 = ⟨none, (.extr 45 (.t 37) 1)⟩ := id rfl
def f4r17o9 : AI := ⟨none, (.alloc 12 30 [(.bool false), (.int .i64 0)])⟩
theorem uf4r17o9 : f4r17o9 = ⟨none, (.alloc 12 30 [(.bool false), (.int .i64 0)])⟩ := id rfl
def f4r17o10 : AI := ⟨none, (.store 2 (.t 12) (.t 44))⟩
theorem uf4r17o10 : f4r17o10 = ⟨none, (.store 2 (.t 12) (.t 44))⟩ := id rfl
def f4r17o11 : AI := ⟨none, (.mov 13 (.t 45))⟩
theorem uf4r17o11 : f4r17o11 = ⟨none, (.mov 13 (.t 45))⟩ := id rfl
def f4r17 : List AI := [f4r17o0, f4r17o1, f4r17o2, f4r17o3, f4r17o4, f4r17o5, f4r17o6, f4r17o7, f4r17o8, f4r17o9, f4r17o10, f4r17o11]
theorem utf4r17 : treeOf f4r17 [[], [], [], [], [2, 3], [0, 1, 4, 4], [5], [6], [6], [], [9, 7, 5, 0, 1, 2, 3, 4, 5, 6, 7, 9], [8, 10, 0, 1, 2, 3, 4, 5, 6, 7, 8, 9, 10]] = (.one f4r17o9 (.one f4r17o0 (.one f4r17o1 (.one f4r17o2 (.one f4r17o3 (.one f4r17o4 (.one f4r17o5 (.one f4r17o6 (.one f4r17o7 (.alt (.one f4r17o8 (.one f4r17o10 (.one f4r17o11 .done))) (.alt (.one f4r17o10 (.one f4r17o8 (.one f4r17o11 .done))) .top))))))))))) := by kernel_rfl
def f4b18 : AQ := (.seq (.tree f4r17 [[], [], [], [], [2, 3], [0, 1, 4, 4], [5], [6], [6], [], [9, 7, 5, 0, 1, 2, 3, 4, 5, 6, 7, 9], [8, 10, 0, 1, 2, 3, 4, 5, 6, 7, 8, 9, 10]]) (.keep [1, 2, 4, 9, 10, 11, 12, 13] [4, 10, 12, 34, 42, 43, 35000, 35001, 35002, 43000, 43001, 43002, 44000, 44001, 44002] f4b16))
theorem uf4b18 (P ts os Q) : awl P f4b18 Q ts os = awl P (.seq (.tree f4r17 [[], [], [], [], [2, 3], [0, 1, 4, 4], [5], [6], [6], [], [9, 7, 5, 0, 1, 2, 3, 4, 5, 6, 7, 9], [8, 10, 0, 1, 2, 3, 4, 5, 6, 7, 8, 9, 10]]) (.keep [1, 2, 4, 9, 10, 11, 12, 13] [4, 10, 12, 34, 42, 43, 35000, 35001, 35002, 43000, 43001, 43002, 44000, 44001, 44002] f4b16)) Q ts os := id rfl
def f4r19 : List AI := [⟨none, (.load 31 4 true (.t 4))⟩, ⟨none, (.mov 32 (.t 1))⟩, ⟨none, (.mov 33 (.t 2))⟩, ⟨none, (.call (some 34) 9 [(.t 31), (.t 32), (.t 33)])⟩, ⟨none, (.mov 30 (.t 34))⟩, ⟨none, (.extr 35 (.t 30) 0)⟩, ⟨none, (.extr 36 (.t 30) 1)⟩, ⟨none, (.alloc 10 30 [(.bool false), (.int .i64 0)])⟩, ⟨none, (.store 2 (.t 10) (.t 35))⟩, ⟨none, (.mov 11 (.t 36))⟩]
theorem uf4r19 : type_of% @f4r19.eq_1 := id @f4r19.eq_1
def f4b20 : AQ := (.seq (.region f4r19) f4b18)
theorem uf4b20 (P ts os Q) : awl P f4b20 Q ts os = awl P (.seq (.region f4r19) f4b18) Q ts os := id rfl
def f4r21 : List AI := [⟨none, (.mov 29 (.t 9))⟩, ⟨none, (.mov 8 (.t 29))⟩]
theorem uf4r21 : type_of% @f4r21.eq_1 := id @f4r21.eq_1
def f4b22 : AQ := (.seq (.region f4r21) .ret)
theorem uf4b22 (P ts os Q) : awl P f4b22 Q ts os = awl P (.seq (.region f4r21) .ret) Q ts os := id rfl
def f4b23 : AQ := (.cond (.t 28) f4b22 .skip)
theorem uf4b23 (P ts os Q) : awl P f4b23 Q ts os = awl P (.cond (.t 28) f4b22 .skip) Q ts os := id rfl
def f4r24 : List AI := [⟨none, (.load 16 4 true (.t 4))⟩, ⟨none, (.call (some 17) 8 [(.t 16)])⟩, ⟨none, (.un 18 .not (.t 17))⟩, ⟨none, (.mov 19 (.t 18))⟩, ⟨(some (19, false)), (.mov 20 (.t 2))⟩, ⟨(some (19, false)), (.len 21 (.t 20))⟩, ⟨(some (19, false)), (.bin 22 .gtr (.t 21) (.v (.k (.c (.int .i64 100)))))⟩, ⟨none, (.pick 23 (.t 19) (.v (.k (.c (.bool true)))) (.t 22))⟩, ⟨none, (.mov 24 (.t 23))⟩, ⟨(some (24, false)), (.mov 25 (.t 3))⟩, ⟨(some (24, false)), (.len 26 (.t 25))⟩, ⟨(some (24, false)), (.bin 27 .gtr (.t 26) (.v (.k (.c (.int .i64 100)))))⟩, ⟨none, (.pick 28 (.t 24) (.v (.k (.c (.bool true)))) (.t 27))⟩]
theorem uf4r24 : type_of% @f4r24.eq_1 := id @f4r24.eq_1
def f4b25 : AQ := (.seq (.region f4r24) f4b23)
theorem uf4b25 (P ts os Q) : awl P f4b25 Q ts os = awl P (.seq (.region f4r24) f4b23) Q ts os := id rfl
def f4b26 : AQ := (.seq f4b25 f4b20)
theorem uf4b26 (P ts os Q) : awl P f4b26 Q ts os = awl P (.seq f4b25 f4b20) Q ts os := id rfl
def f4r27 : List AI := [⟨none, (.call (some 15) 7 [])⟩, ⟨none, (.mov 9 (.t 15))⟩]
theorem uf4r27 : type_of% @f4r27.eq_1 := id @f4r27.eq_1
def f4b28 : AQ := (.seq (.region f4r27) f4b26)
theorem uf4b28 (P ts os Q) : awl P f4b28 Q ts os = awl P (.seq (.region f4r27) f4b26) Q ts os := id rfl
def f4r29 : List AI := [⟨none, (.box 4 25 (.t 0))⟩, ⟨none, (.mov 8 (.v (.k (.c (.bool false)))))⟩]
theorem uf4r29 : type_of% @f4r29.eq_1 := id @f4r29.eq_1
def f4b30 : AQ := (.seq (.region f4r29) f4b28)
theorem uf4b30 (P ts os Q) : awl P f4b30 Q ts os = awl P (.seq (.region f4r29) f4b28) Q ts os := id rfl
def f4 : AQ := f4b30
theorem uf4 (P ts os Q) : awl P f4 Q ts os = awl P f4b30 Q ts os := id rfl
theorem hf4 : cFunc Tryd.prog 4 = some ⟨103, f4.erase, [(RX.t 8)]⟩ := by kernel_rfl
theorem okf4 : f4.ok = true := by kernel_rfl
def f7r1 : List AI := [⟨none, (.load 130 4 true (.t 1))⟩, ⟨none, (.call (some 131) 23 [(.v (.k (.c (.int .i64 15)))), (.v (.k (.c (.int .i64 0))))])⟩, ⟨none, (.call (some 132) 16 [(.t 130), (.v (.k (.c (.int .i64 2)))), (.t 131)])⟩, ⟨none, (.len 133 (.t 132))⟩, ⟨none, (.bin 134 .eql (.t 133) (.v (.k (.c (.int .i64 0)))))⟩, ⟨none, (.mov 135 (.t 134))⟩, ⟨(some (135, true)), (.mov 136 (.t 19))⟩, ⟨(some (135, true)), (.bslice 137 3 1 [(.int .i64 0)] 1 [(0, (.v (.k (.c (.int .i64 17)))))])⟩, ⟨(some (135, true)), (.call (some 138) 15 [(.t 136), (.t 137)])⟩, ⟨none, (.pick 139 (.t 135) (.t 138) (.v (.k (.c (.bool false)))))⟩, ⟨none, (.mov 140 (.t 139))⟩, ⟨(some (140, true)), (.mov 141 (.t 20))⟩, ⟨(some (140, true)), (.bslice 142 3 1 [(.int .i64 0)] 1 [(0, (.v (.k (.c (.int .i64 10)))))])⟩, ⟨(some (140, true)), (.call (some 143) 15 [(.t 141), (.t 142)])⟩, ⟨none, (.pick 144 (.t 140) (.t 143) (.v (.k (.c (.bool false)))))⟩, ⟨none, (.mov 0 (.t 144))⟩]
theorem uf7r1 : type_of% @f7r1.eq_1 := id @f7r1.eq_1
def f7b2 : AQ := (.seq (.draw f7r1 [[], [], [0, 1, 1], [2], [3], [4, 2], [5], [5], [6, 7, 5, 5], [5, 8], [9, 8], [10], [10], [11, 12, 10, 10], [10, 13], [14, 13, 0, 1, 2, 3, 4, 5, 6, 7, 8, 9, 10, 11, 12, 13, 14]]) .ret)
theorem uf7b2 (P ts os Q) : awl P f7b2 Q ts os = awl P (.seq (.draw f7r1 [[], [], [0, 1, 1], [2], [3], [4, 2], [5], [5], [6, 7, 5, 5], [5, 8], [9, 8], [10], [10], [11, 12, 10, 10], [10, 13], [14, 13, 0, 1, 2, 3, 4, 5, 6, 7, 8, 9, 10, 11, 12, 13, 14]]) .ret) Q ts os := id rfl
def f7r3 : List AI := [⟨none, (.load 128 4 true (.t 1))⟩, ⟨none, (.call (some 129) 18 [(.t 128), (.v (.k (.c (.int .i64 6))))])⟩, ⟨none, (.mov 20 (.t 129))⟩]
theorem uf7r3 : type_of% @f7r3.eq_1 := id @f7r3.eq_1
def f7b4 : AQ := (.seq (.region f7r3) f7b2)
theorem uf7b4 (P ts os Q) : awl P f7b4 Q ts os = awl P (.seq (.region f7r3) f7b2) Q ts os := id rfl
def f7r5 : List AI := [⟨none, (.load 125 4 true (.t 1))⟩, ⟨none, (.call (some 126) 23 [(.v (.k (.c (.int .i64 15)))), (.v (.k (.c (.int .i64 1))))])⟩, ⟨none, (.call (some 127) 16 [(.t 125), (.v (.k (.c (.int .i64 2)))), (.t 126)])⟩, ⟨none, (.mov 19 (.t 127))⟩]
theorem uf7r5 : type_of% @f7r5.eq_1 := id @f7r5.eq_1
def f7b6 : AQ := (.seq (.draw f7r5 [[], [], [0, 1, 1], [2, 2, 0, 1, 2]]) f7b4)
theorem uf7b6 (P ts os Q) : awl P f7b6 Q ts os = awl P (.seq (.draw f7r5 [[], [], [0, 1, 1], [2, 2, 0, 1, 2]]) f7b4) Q ts os := id rfl
def f7r7 : List AI := [⟨none, (.mov 0 (.v (.k (.c (.bool false)))))⟩]
def f7b8 : AQ := (.seq (.region f7r7) .ret)
def f7b9 : AQ := (.cond (.t 124) f7b8 .skip)
theorem uf7b9 (P ts os Q) : awl P f7b9 Q ts os = awl P (.cond (.t 124) f7b8 .skip) Q ts os := id rfl
def f7r10 : List AI := [⟨none, (.load 97 2 true (.t 2))⟩, ⟨none, (.load 98 2 true (.t 18))⟩, ⟨none, (.eqAgg 99 true [.bool, .int] (.t 97) (.t 98))⟩, ⟨none, (.mov 100 (.t 99))⟩, ⟨(some (100, false)), (.load 101 2 true (.t 4))⟩, ⟨(some (100, false)), (.build 102 [(.bool false), (.int .i64 0)] [])⟩, ⟨(some (100, false)), (.eqAgg 103 true [.bool, .int] (.t 101) (.t 102))⟩, ⟨none, (.pick 104 (.t 100) (.v (.k (.c (.bool true)))) (.t 103))⟩, ⟨none, (.mov 105 (.t 104))⟩, ⟨(some (105, false)), (.load 106 2 true (.t 6))⟩, ⟨(some (105, false)), (.build 107 [(.bool false), (.int .i64 0)] [(0, (1, (.v (.k (.c (.bool true)))))), (1, (1, (.v (.k (.c (.int .i64 20000))))))])⟩, ⟨(some (105, false)), (.eqAgg 108 true [.bool, .int] (.t 106) (.t 107))⟩, ⟨none, (.pick 109 (.t 105) (.v (.k (.c (.bool true)))) (.t 108))⟩, ⟨none, (.mov 110 (.t 109))⟩, ⟨(some (110, false)), (.load 111 2 true (.t 8))⟩, ⟨(some (110, false)), (.load 112 2 true (.t 18))⟩, ⟨(some (110, false)), (.eqAgg 113 true [.bool, .int] (.t 111) (.t 112))⟩, ⟨none, (.pick 114 (.t 110) (.v (.k (.c (.bool true)))) (.t 113))⟩, ⟨none, (.mov 115 (.t 114))⟩, ⟨(some (115, false)), (.faddr 116 1 (.t 14))⟩, ⟨(some (115, false)), (.load 117 1 false (.t 116))⟩, ⟨(some (115, false)), (.bin 118 .neq (.t 117) (.v (.k (.c (.int .i64 2)))))⟩, ⟨none, (.pick 119 (.t 115) (.v (.k (.c (.bool true)))) (.t 118))⟩, ⟨none, (.mov 120 (.t 119))⟩, ⟨(some (120, false)), (.faddr 121 1 (.t 16))⟩, ⟨(some (120, false)), (.load 122 1 false (.t 121))⟩, ⟨(some (120, false)), (.bin 123 .neq (.t 122) (.v (.k (.c (.int .i64 0)))))⟩, ⟨none, (.pick 124 (.t 120) (.v (.k (.c (.bool true)))) (.t 123))⟩]
theorem uf7r10 : type_of% @f7r10.eq_1 := id @f7r10.eq_1
def f7b11 : AQ := (.seq (.region f7r10) f7b9)
theorem uf7b11 (P ts os Q) : awl P f7b11 Q ts os = awl P (.seq (.region f7r10) f7b9) Q ts os := id rfl
def f7b12 : AQ := (.seq f7b11 f7b6)
theorem uf7b12 (P ts os Q) : awl P f7b12 Q ts os = awl P (.seq f7b11 f7b6) Q ts os := id rfl
def f7r13 : List AI := [⟨none, (.mov 0 (.v (.k (.c (.bool false)))))⟩]
def f7b14 : AQ := (.seq (.region f7r13) .ret)
def f7b15 : AQ := (.cond (.t 96) f7b14 .skip)
theorem uf7b15 (P ts os Q) : awl P f7b15 Q ts os = awl P (.cond (.t 96) f7b14 .skip) Q ts os := id rfl
def f7r16 : List AI := [⟨none, (.mov 67 (.t 3))⟩, ⟨none, (.bin 68 .neq (.t 67) (.v (.k (.c (.int .i64 0)))))⟩, ⟨none, (.mov 69 (.t 68))⟩, ⟨(some (69, false)), (.mov 70 (.t 5))⟩, ⟨(some (69, false)), (.bin 71 .neq (.t 70) (.v (.k (.c (.int .i64 0)))))⟩, ⟨none, (.pick 72 (.t 69) (.v (.k (.c (.bool true)))) (.t 71))⟩, ⟨none, (.mov 73 (.t 72))⟩, ⟨(some (73, false)), (.mov 74 (.t 7))⟩, ⟨(some (73, false)), (.bin 75 .neq (.t 74) (.v (.k (.c (.int .i64 0)))))⟩, ⟨none, (.pick 76 (.t 73) (.v (.k (.c (.bool true)))) (.t 75))⟩, ⟨none, (.mov 77 (.t 76))⟩, ⟨(some (77, false)), (.mov 78 (.t 9))⟩, ⟨(some (77, false)), (.bin 79 .neq (.t 78) (.v (.k (.c (.int .i64 0)))))⟩, ⟨none, (.pick 80 (.t 77) (.v (.k (.c (.bool true)))) (.t 79))⟩, ⟨none, (.mov 81 (.t 80))⟩, ⟨(some (81, false)), (.mov 82 (.t 11))⟩, ⟨(some (81, false)), (.bin 83 .neq (.t 82) (.v (.k (.c (.int .i64 4)))))⟩, ⟨none, (.pick 84 (.t 81) (.v (.k (.c (.bool true)))) (.t 83))⟩, ⟨none, (.mov 85 (.t 84))⟩, ⟨(some (85, false)), (.mov 86 (.t 13))⟩, ⟨(some (85, false)), (.bin 87 .neq (.t 86) (.v (.k (.c (.int .i64 1)))))⟩, ⟨none, (.pick 88 (.t 85) (.v (.k (.c (.bool true)))) (.t 87))⟩, ⟨none, (.mov 89 (.t 88))⟩, ⟨(some (89, false)), (.mov 90 (.t 15))⟩, ⟨(some (89, false)), (.bin 91 .neq (.t 90) (.v (.k (.c (.int .i64 0)))))⟩, ⟨none, (.pick 92 (.t 89) (.v (.k (.c (.bool true)))) (.t 91))⟩, ⟨none, (.mov 93 (.t 92))⟩, ⟨(some (93, false)), (.mov 94 (.t 17))⟩, ⟨(some (93, false)), (.bin 95 .neq (.t 94) (.v (.k (.c (.int .i64 0)))))⟩, ⟨none, (.pick 96 (.t 93) (.v (.k (.c (.bool true)))) (.t 95))⟩]
theorem uf7r16 : type_of% @f7r16.eq_1 := id @f7r16.eq_1
def f7b17 : AQ := (.seq (.region f7r16) f7b15)
theorem uf7b17 (P ts os Q) : awl P f7b17 Q ts os = awl P (.seq (.region f7r16) f7b15) Q ts os := id rfl
def f7b18 : AQ := (.seq f7b17 f7b12)
theorem uf7b18 (P ts os Q) : awl P f7b18 Q ts os = awl P (.seq f7b17 f7b12) Q ts os := id rfl
def f7r19 : List AI := [⟨none, (.build 66 [(.bool false), (.int .i64 0)] [(0, (1, (.v (.k (.c (.bool true))))))])⟩, ⟨none, (.alloc 18 30 [(.bool false), (.int .i64 0)])⟩, ⟨none, (.store 2 (.t 18) (.t 66))⟩]
theorem uf7r19 : type_of% @f7r19.eq_1 := id @f7r19.eq_1
def f7b20 : AQ := (.seq (.region f7r19) f7b18)
theorem uf7b20 (P ts os Q) : awl P f7b20 Q ts os = awl P (.seq (.region f7r19) f7b18) Q ts os := id rfl
def f7r21 : List AI := [⟨none, (.load 62 4 true (.t 1))⟩, ⟨none, (.call (some 63) 11 [(.t 62), (.v (.k (.c (.int .i64 2))))])⟩, ⟨none, (.mov 61 (.t 63))⟩, ⟨none, (.extr 64 (.t 61) 0)⟩, ⟨none, (.extr 65 (.t 61) 1)⟩, ⟨none, (.alloc 16 35 [(.int .i64 0), (.int .i64 0), (.bool false)])⟩, ⟨none, (.store 3 (.t 16) (.t 64))⟩, ⟨none, (.mov 17 (.t 65))⟩]
theorem uf7r21 : type_of% @f7r21.eq_1 := id @f7r21.eq_1
def f7b22 : AQ := (.seq (.region f7r21) f7b20)
theorem uf7b22 (P ts os Q) : awl P f7b22 Q ts os = awl P (.seq (.region f7r21) f7b20) Q ts os := id rfl
def f7r23 : List AI := [⟨none, (.load 57 4 true (.t 1))⟩, ⟨none, (.call (some 58) 11 [(.t 57), (.v (.k (.c (.int .i64 6))))])⟩, ⟨none, (.mov 56 (.t 58))⟩, ⟨none, (.extr 59 (.t 56) 0)⟩, ⟨none, (.extr 60 (.t 56) 1)⟩, ⟨none, (.alloc 14 35 [(.int .i64 0), (.int .i64 0), (.bool false)])⟩, ⟨none, (.store 3 (.t 14) (.t 59))⟩, ⟨none, (.mov 15 (.t 60))⟩]
theorem uf7r23 : type_of% @f7r23.eq_1 := id @f7r23.eq_1
def f7b24 : AQ := (.seq (.region f7r23) f7b22)
theorem uf7b24 (P ts os Q) : awl P f7b24 Q ts os = awl P (.seq (.region f7r23) f7b22) Q ts os := id rfl
def f7r25 : List AI := [⟨none, (.load 52 4 true (.t 1))⟩, ⟨none, (.call (some 53) 9 [(.t 52), (.v (.k (.c (.int .i64 22)))), (.v (.k (.c (.list 0 (some true) []))))])⟩, ⟨none, (.mov 51 (.t 53))⟩, ⟨none, (.extr 54 (.t 51) 0)⟩, ⟨none, (.extr 55 (.t 51) 1)⟩, ⟨none, (.alloc 12 30 [(.bool false), (.int .i64 0)])⟩, ⟨none, (.store 2 (.t 12) (.t 54))⟩, ⟨none, (.mov 13 (.t 55))⟩]
theorem uf7r25 : type_of% @f7r25.eq_1 := id @f7r25.eq_1
def f7b26 : AQ := (.seq (.region f7r25) f7b24)
theorem uf7b26 (P ts os Q) : awl P f7b26 Q ts os = awl P (.seq (.region f7r25) f7b24) Q ts os := id rfl
def f7r27 : List AI := [⟨none, (.load 47 4 true (.t 1))⟩, ⟨none, (.call (some 48) 9 [(.t 47), (.v (.k (.c (.int .i64 0)))), (.v (.k (.c (.list 0 (some true) []))))])⟩, ⟨none, (.mov 46 (.t 48))⟩, ⟨none, (.extr 49 (.t 46) 0)⟩, ⟨none, (.extr 50 (.t 46) 1)⟩, ⟨none, (.alloc 10 30 [(.bool false), (.int .i64 0)])⟩, ⟨none, (.store 2 (.t 10) (.t 49))⟩, ⟨none, (.mov 11 (.t 50))⟩]
theorem uf7r27 : type_of% @f7r27.eq_1 := id @f7r27.eq_1
def f7b28 : AQ := (.seq (.region f7r27) f7b26)
theorem uf7b28 (P ts os Q) : awl P f7b28 Q ts os = awl P (.seq (.region f7r27) f7b26) Q ts os := id rfl
def f7r29o0 : AI := ⟨none, (.load 41 4 true (.t 1))⟩
theorem uf7r29o0 : f7r29o0 = ⟨none, (.load 41 4 true (.t 1))⟩ := id rfl
def f7r29o1 : AI := ⟨none, (.call (some 42) 23 [(.v (.k (.c (.int .i64 10)))), (.v (.k (.c (.int .i64 1))))])⟩
theorem uf7r29o1 : f7r29o1 = ⟨none, (.call (some 42) 23 [(.v (.k (.c (.int .i64 10)))), (.v (.k (.c (.int .i64 1))))])⟩ := id rfl
def f7r29o2 : AI := ⟨none, (.call (some 43) 9 [(.t 41), (.v (.k (.c (.int .i64 6)))), (.t 42)])⟩
theorem uf7r29o2 : f7r29o2 = ⟨none, (.call (some 43) 9 [(.t 41), (.v (.k (.c (.int .i64 6)))), (.t 42)])⟩ := id rfl
def f7r29o3 : AI := ⟨none, (.mov 40 (.t 43))⟩
theorem uf7r29o3 : f7r29o3 = ⟨none, (.mov 40 (.t 43))⟩ := id rfl
def f7r29o4 : AI := ⟨none, (.extr 44 (.t 40) 0)⟩
theorem uf7r29o4 : f7r29o4 = ⟨none, (.extr 44 (.t 40) 0)⟩ := id rfl
def f7r29o5 : AI := ⟨none, (.extr 45 (.t 40) 1)⟩
theorem uf7r29o5 : f7r29o5 = ⟨none, (.extr 45 (.t 40) 1)⟩ := id rfl
def f7r29o6 : AI := ⟨none, (.alloc 8 30 [(.bool false), (.int .i64 0)])⟩
theorem uf7r29o6 : f7r29o6 = ⟨none, (.alloc 8 30 [(.bool false), (.int .i64 0)])⟩ := id rfl
def f7r29o7 : AI := ⟨none, (.store 2 (.t 8) (.t 44))⟩
theorem uf7r29o7 : f7r29o7 = ⟨none, (.store 2 (.t 8) (.t 44))⟩ := id rfl
def f7r29o8 : AI := ⟨none, (.mov 9 (.t 45))⟩
theorem uf7r29o8 : f7r29o8 = ⟨none, (.mov 9 (.t 45))⟩ := id rfl
def f7r29 : List AI := [f7r29o0, f7r29o1, f7r29o2, f7r29o3, f7r29o4, f7r29o5, f7r29o6, f7r29o7, f7r29o8]
theorem utf7r29 : treeOf f7r29 [[], [], [0, 1, 1], [2], [3], [3], [], [6, 4, 2, 0, 1, 2, 3, 4, 6], [5, 7, 0, 1, 2, 3, 4, 5, 6, 7]] = (.one f7r29o6 (.one f7r29o0 (.one f7r29o1 (.one f7r29o2 (.one f7r29o3 (.one f7r29o4 (.alt (.one f7r29o5 (.one f7r29o7 (.one f7r29o8 .done))) (.alt (.one f7r29o7 (.one f7r29o5 (.one f7r29o8 .done))) .top)))))))) := by kernel_rfl
def f7b30 : AQ := (.seq (.tree f7r29 [[], [], [0, 1, 1], [2], [3], [3], [], [6, 4, 2, 0, 1, 2, 3, 4, 6], [5, 7, 0, 1, 2, 3, 4, 5, 6, 7]]) (.keep [1, 2, 3, 4, 5, 6, 7, 8, 9] [1, 2, 4, 6, 8, 21, 24, 25, 30, 31, 36, 37, 42, 43, 22000, 22001, 22002, 25000, 25001, 25002, 26000, 26001, 26002, 31000, 31001, 31002, 32000, 32001, 32002, 37000, 37001, 37002, 38000, 38001, 38002, 43000, 43001, 43002, 44000, 44001, 44002] f7b28))
theorem uf7b30 (P ts os Q) : awl P f7b30 Q ts os = awl P (.seq (.tree f7r29 [[], [], [0, 1, 1], [2], [3], [3], [], [6, 4, 2, 0, 1, 2, 3, 4, 6], [5, 7, 0, 1, 2, 3, 4, 5, 6, 7]]) (.keep [1, 2, 3, 4, 5, 6, 7, 8, 9] [1, 2, 4, 6, 8, 21, 24, 25, 30, 31, 36, 37, 42, 43, 22000, 22001, 22002, 25000, 25001, 25002, 26000, 26001, 26002, 31000, 31001, 31002, 32000, 32001, 32002, 37000, 37001, 37002, 38000, 38001, 38002, 43000, 43001, 43002, 44000, 44001, 44002] f7b28)) Q ts os := id rfl
def f7r31o0 : AI := ⟨none, (.load 35 4 true (.t 1))⟩
theorem uf7r31o0 : f7r31o0 = ⟨none, (.load 35 4 true (.t 1))⟩ := id rfl
def f7r31o1 : AI := ⟨none, (.call (some 36) 23 [(.v (.k (.c (.int .i64 10)))), (.v (.k (.c (.int .i64 0))))])⟩
theorem uf7r31o1 : f7r31o1 = ⟨none, (.call (some 36) 23 [(.v (.k (.c (.int .i64 10)))), (.v (.k (.c (.int .i64 0))))])⟩ := id rfl
def f7r31o2 : AI := ⟨none, (.call (some 37) 9 [(.t 35), (.v (.k (.c (.int .i64 6)))), (.t 36)])⟩
theorem uf7r31o2 : f7r31o2 = ⟨none, (.call (some 37) 9 [(.t 35), (.v (.k (.c (.int .i64 6)))), (.t 36)])⟩ := id rfl
def f7r31o3 : AI := ⟨none, (.mov 34 (.t 37))⟩
theorem uf7r31o3 : f7r31o3 = ⟨none, (.mov 34 (.t 37))⟩ := id rfl
def f7r31o4 : AI := ⟨none, (.extr 38 (.t 34) 0)⟩
theorem uf7r31o4 : f7r31o4 = ⟨none, (.extr 38 (.t 34) 0)⟩ := id rfl
def f7r31o5 : AI := ⟨none, (.extr 39 (.t 34) 1)⟩
theorem uf7r31o5 : f7r31o5 = ⟨none, (.extr 39 (.t 34) 1)⟩ := id rfl
def f7r31o6 : AI := ⟨none, (.alloc 6 30 [(.bool false), (.int .i64 0)])⟩
theorem uf7r31o6 : f7r31o6 = ⟨none, (.alloc 6 30 [(.bool false), (.int .i64 0)])⟩ := id rfl
def f7r31o7 : AI := ⟨none, (.store 2 (.t 6) (.t 38))⟩
theorem uf7r31o7 : f7r31o7 = ⟨none, (.store 2 (.t 6) (.t 38))⟩ := id rfl
def f7r31o8 : AI := ⟨none, (.mov 7 (.t 39))⟩
theorem uf7r31o8 : f7r31o8 = ⟨none, (.mov 7 (.t 39))⟩ := id rfl
def f7r31 : List AI := [f7r31o0, f7r31o1, f7r31o2, f7r31o3, f7r31o4, f7r31o5, f7r31o6, f7r31o7, f7r31o8]
theorem utf7r31 : treeOf f7r31 [[], [], [0, 1, 1], [2], [3], [3], [], [6, 4, 2, 0, 1, 2, 3, 4, 6], [5, 7, 0, 1, 2, 3, 4, 5, 6, 7]] = (.one f7r31o6 (.one f7r31o0 (.one f7r31o1 (.one f7r31o2 (.one f7r31o3 (.one f7r31o4 (.alt (.one f7r31o5 (.one f7r31o7 (.one f7r31o8 .done))) (.alt (.one f7r31o7 (.one f7r31o5 (.one f7r31o8 .done))) .top)))))))) := by kernel_rfl
def f7b32 : AQ := (.seq (.tree f7r31 [[], [], [0, 1, 1], [2], [3], [3], [], [6, 4, 2, 0, 1, 2, 3, 4, 6], [5, 7, 0, 1, 2, 3, 4, 5, 6, 7]]) (.keep [1, 2, 3, 4, 5, 6, 7] [1, 2, 4, 6, 21, 24, 25, 30, 31, 36, 37, 22000, 22001, 22002, 25000, 25001, 25002, 26000, 26001, 26002, 31000, 31001, 31002, 32000, 32001, 32002, 37000, 37001, 37002, 38000, 38001, 38002] f7b30))
theorem uf7b32 (P ts os Q) : awl P f7b32 Q ts os = awl P (.seq (.tree f7r31 [[], [], [0, 1, 1], [2], [3], [3], [], [6, 4, 2, 0, 1, 2, 3, 4, 6], [5, 7, 0, 1, 2, 3, 4, 5, 6, 7]]) (.keep [1, 2, 3, 4, 5, 6, 7] [1, 2, 4, 6, 21, 24, 25, 30, 31, 36, 37, 22000, 22001, 22002, 25000, 25001, 25002, 26000, 26001, 26002, 31000, 31001, 31002, 32000, 32001, 32002, 37000, 37001, 37002, 38000, 38001, 38002] f7b30)) Q ts os := id rfl
def f7r33o0 : AI := ⟨none, (.load 29 4 true (.t 1))⟩
theorem uf7r33o0 : f7r33o0 = ⟨none, (.load 29 4 true (.t 1))⟩ := id rfl
def f7r33o1 : AI := ⟨none, (.call (some 30) 23 [(.v (.k (.c (.int .i64 15)))), (.v (.k (.c (.int .i64 1))))])⟩
theorem uf7r33o1 : f7r33o1 = ⟨none, (.call (some 30) 23 [(.v (.k (.c (.int .i64 15)))), (.v (.k (.c (.int .i64 1))))])⟩ := id rfl
def f7r33o2 : AI := ⟨none, (.call (some 31) 9 [(.t 29), (.v (.k (.c (.int .i64 2)))), (.t 30)])⟩
theorem uf7r33o2 : f7r33o2 = ⟨none, (.call (some 31) 9 [(.t 29), (.v (.k (.c (.int .i64 2)))), (.t 30)])⟩ := id rfl
def f7r33o3 : AI := ⟨none, (.mov 28 (.t 31))⟩
theorem uf7r33o3 : f7r33o3 = ⟨none, (.mov 28 (.t 31))⟩ := id rfl
def f7r33o4 : AI := ⟨none, (.extr 32 (.t 28) 0)⟩
theorem uf7r33o4 : f7r33o4 = ⟨none, (.extr 32 (.t 28) 0)⟩ := id rfl
def f7r33o5 : AI := ⟨none, (.extr 33 (.t 28) 1)⟩
theorem uf7r33o5 : f7r33o5 = ⟨none, (.extr 33 (.t 28) 1)⟩ := id rfl
def f7r33o6 : AI := ⟨none, (.alloc 4 30 [(.bool false), (.int .i64 0)])⟩
theorem uf7r33o6 : f7r33o6 = ⟨none, (.alloc 4 30 [(.bool false), (.int .i64 0)])⟩ := id rfl
def f7r33o7 : AI := ⟨none, (.store 2 (.t 4) (.t 32))⟩
theorem uf7r33o7 : f7r33o7 = ⟨none, (.store 2 (.t 4) (.t 32))⟩ := id rfl
def f7r33o8 : AI := ⟨none, (.mov 5 (.t 33))⟩
theorem uf7r33o8 : f7r33o8 = ⟨none, (.mov 5 (.t 33))⟩ := id rfl
def f7r33 : List AI := [f7r33o0, f7r33o1, f7r33o2, f7r33o3, f7r33o4, f7r33o5, f7r33o6, f7r33o7, f7r33o8]
theorem utf7r33 : treeOf f7r33 [[], [], [0, 1, 1], [2], [3], [3], [], [6, 4, 2, 0, 1, 2, 3, 4, 6], [5, 7, 0, 1, 2, 3, 4, 5, 6, 7]] = (.one f7r33o6 (.one f7r33o0 (.one f7r33o1 (.one f7r33o2 (.one f7r33o3 (.one f7r33o4 (.alt (.one f7r33o5 (.one f7r33o7 (.one f7r33o8 .done))) (.alt (.one f7r33o7 (.one f7r33o5 (.one f7r33o8 .done))) .top)))))))) := by kernel_rfl
def f7b34 : AQ := (.seq (.tree f7r33 [[], [], [0, 1, 1], [2], [3], [3], [], [6, 4, 2, 0, 1, 2, 3, 4, 6], [5, 7, 0, 1, 2, 3, 4, 5, 6, 7]]) (.keep [1, 2, 3, 4, 5] [1, 2, 4, 21, 24, 25, 30, 31, 22000, 22001, 22002, 25000, 25001, 25002, 26000, 26001, 26002, 31000, 31001, 31002, 32000, 32001, 32002] f7b32))
theorem uf7b34 (P ts os Q) : awl P f7b34 Q ts os = awl P (.seq (.tree f7r33 [[], [], [0, 1, 1], [2], [3], [3], [], [6, 4, 2, 0, 1, 2, 3, 4, 6], [5, 7, 0, 1, 2, 3, 4, 5, 6, 7]]) (.keep [1, 2, 3, 4, 5] [1, 2, 4, 21, 24, 25, 30, 31, 22000, 22001, 22002, 25000, 25001, 25002, 26000, 26001, 26002, 31000, 31001, 31002, 32000, 32001, 32002] f7b32)) Q ts os := id rfl
def f7r35o0 : AI := ⟨none, (.load 23 4 true (.t 1))⟩
theorem uf7r35o0 : f7r35o0 = ⟨none, (.load 23 4 true (.t 1))⟩ := id rfl
def f7r35o1 : AI := ⟨none, (.call (some 24) 23 [(.v (.k (.c (.int .i64 15)))), (.v (.k (.c (.int .i64 0))))])⟩
theorem uf7r35o1 : f7r35o1 = ⟨none, (.call (some 24) 23 [(.v (.k (.c (.int .i64 15)))), (.v (.k (.c (.int .i64 0))))])⟩ := id rfl
def f7r35o2 : AI := ⟨none, (.call (some 25) 9 [(.t 23), (.v (.k (.c (.int .i64 2)))), (.t 24)])⟩
theorem uf7r35o2 : f7r35o2 = ⟨none, (.call (some 25) 9 [(.t 23), (.v (.k (.c (.int .i64 2)))), (.t 24)])⟩ := id rfl
def f7r35o3 : AI := ⟨none, (.mov 22 (.t 25))⟩
theorem uf7r35o3 : f7r35o3 = ⟨none, (.mov 22 (.t 25))⟩ := id rfl
def f7r35o4 : AI := ⟨none, (.extr 26 (.t 22) 0)⟩
theorem uf7r35o4 : f7r35o4 = ⟨none, (.extr 26 (.t 22) 0)⟩ := id rfl
def f7r35o5 : AI := ⟨none, (.extr 27 (.t 22) 1)⟩
theorem uf7r35o5 : f7r35o5 = ⟨none, (.extr 27 (.t 22) 1)⟩ := id rfl
def f7r35o6 : AI := ⟨none, (.alloc 2 30 [(.bool false), (.int .i64 0)])⟩
theorem uf7r35o6 : f7r35o6 = ⟨none, (.alloc 2 30 [(.bool false), (.int .i64 0)])⟩ := id rfl
def f7r35o7 : AI := ⟨none, (.store 2 (.t 2) (.t 26))⟩
theorem uf7r35o7 : f7r35o7 = ⟨none, (.store 2 (.t 2) (.t 26))⟩ := id rfl
def f7r35o8 : AI := ⟨none, (.mov 3 (.t 27))⟩
theorem uf7r35o8 : f7r35o8 = ⟨none, (.mov 3 (.t 27))⟩ := id rfl
def f7r35 : List AI := [f7r35o0, f7r35o1, f7r35o2, f7r35o3, f7r35o4, f7r35o5, f7r35o6, f7r35o7, f7r35o8]
theorem utf7r35 : treeOf f7r35 [[], [], [0, 1, 1], [2], [3], [3], [], [6, 4, 2, 0, 1, 2, 3, 4, 6], [5, 7, 0, 1, 2, 3, 4, 5, 6, 7]] = (.one f7r35o6 (.one f7r35o0 (.one f7r35o1 (.one f7r35o2 (.one f7r35o3 (.one f7r35o4 (.alt (.one f7r35o5 (.one f7r35o7 (.one f7r35o8 .done))) (.alt (.one f7r35o7 (.one f7r35o5 (.one f7r35o8 .done))) .top)))))))) := by kernel_rfl
def f7b36 : AQ := (.seq (.tree f7r35 [[], [], [0, 1, 1], [2], [3], [3], [], [6, 4, 2, 0, 1, 2, 3, 4, 6], [5, 7, 0, 1, 2, 3, 4, 5, 6, 7]]) (.keep [1, 2, 3] [1, 2, 21, 24, 25, 22000, 22001, 22002, 25000, 25001, 25002, 26000, 26001, 26002] f7b34))
theorem uf7b36 (P ts os Q) : awl P f7b36 Q ts os = awl P (.seq (.tree f7r35 [[], [], [0, 1, 1], [2], [3], [3], [], [6, 4, 2, 0, 1, 2, 3, 4, 6], [5, 7, 0, 1, 2, 3, 4, 5, 6, 7]]) (.keep [1, 2, 3] [1, 2, 21, 24, 25, 22000, 22001, 22002, 25000, 25001, 25002, 26000, 26001, 26002] f7b34)) Q ts os := id rfl
def f7r37 : List AI := [⟨none, (.call (some 21) 22 [])⟩, ⟨none, (.alloc 1 25 [(.str []), (.bool false), (.list 0 (some true) []), (.list 0 (some true) [])])⟩, ⟨none, (.store 4 (.t 1) (.t 21))⟩]
theorem uf7r37 : type_of% @f7r37.eq_1 := id @f7r37.eq_1
def f7b38 : AQ := (.seq (.region f7r37) f7b36)
theorem uf7b38 (P ts os Q) : awl P f7b38 Q ts os = awl P (.seq (.region f7r37) f7b36) Q ts os := id rfl
def f7r39 : List AI := [⟨none, (.mov 0 (.v (.k (.c (.bool false)))))⟩]
theorem uf7r39 : type_of% @f7r39.eq_1 := id @f7r39.eq_1
def f7b40 : AQ := (.seq (.region f7r39) f7b38)
theorem uf7b40 (P ts os Q) : awl P f7b40 Q ts os = awl P (.seq (.region f7r39) f7b38) Q ts os := id rfl
def f7 : AQ := f7b40
theorem uf7 (P ts os Q) : awl P f7 Q ts os = awl P f7b40 Q ts os := id rfl
theorem hf7 : cFunc Tryd.prog 7 = some ⟨145, f7.erase, [(RX.t 0)]⟩ := by kernel_rfl
theorem okf7 : f7.ok = true := by kernel_rfl
end Go.Abs


namespace Go.Abs
theorem wrap_in {n : Int} (h1 : -9223372036854775808 ≤ n) (h2 : n ≤ 9223372036854775807) : IntKind.i64.wrap n = n := IntWalk.i64_in n ⟨h1, h2⟩
def lstC (sz : Nat) (rows : List (List C)) : C := .list (if rows.isEmpty then 0 else sz) none rows
abbrev lst (sz : Nat) (rows : List (List C)) : V := .k (.c (lstC sz rows))
def ints (l : List Int) : List (List C) := l.map fun n => [.int .i64 n]
theorem map_isEmpty {α β : Type} (f : α → β) (l : List α) : (l.map f).isEmpty = l.isEmpty := by cases l <;> rfl
theorem sz_of {α : Type} {l : List α} {i sz : Nat} (h : i < l.length) : (if l.isEmpty = true then 0 else sz) = sz := by cases l <;> simp at h ⊢
theorem map_at {α : Type} {f : α → List C} {l : List α} {i : Nat} (h : i < l.length) : (l.map f).getD i [] = f l[i] := by simp [h]
theorem map_len {α : Type} (f : α → List C) (l : List α) : (l.map f).length = l.length := by simp
theorem normRows_eq {α : Type} {f : α → List C} (hf : ∀ x, C.normRow (f x) = f x) (l : List α) : C.normRows (l.map f) = l.map f := by
  induction l with
  | nil => rfl
  | cons a l ih => simp [C.normRows, hf, ih]
theorem lstC_norm {α : Type} {f : α → List C} (hf : ∀ x, C.normRow (f x) = f x) (sz : Nat) (l : List α) : (lstC sz (l.map f)).norm = lstC sz (l.map f) := by
  unfold lstC
  simp only [C.norm, normRows_eq hf]
  cases l <;> simp
inductive Term where
  | mk (op n : Int) (args : List Term)
  deriving Inhabited
def Term.op : Term → Int | .mk o _ _ => o
def Term.n : Term → Int | .mk _ n _ => n
def Term.args : Term → List Term | .mk _ _ a => a
mutual
def encT : Term → List C
  | .mk o n a => [.int .i64 o, .int .i64 n, lstC 3 (encTs a)]
def encTs : List Term → List (List C)
  | [] => []
  | t :: l => encT t :: encTs l
end
theorem encTs_map : ∀ (l : List Term), encTs l = l.map encT
  | [] => rfl
  | t :: l => by simp [encTs, encTs_map l]
theorem encT_eq (t : Term) : encT t = [.int .i64 t.op, .int .i64 t.n, lstC 3 (t.args.map encT)] := by
  cases t with
  | mk o n a => simp [encT, Term.op, Term.n, Term.args, encTs_map]
mutual
theorem encT_norm : ∀ (t : Term), C.normRow (encT t) = encT t
  | .mk o n a => by
    simp only [encT, C.normRow, C.norm, lstC, encTs_norm a]
    cases a <;> simp [encTs]
theorem encTs_norm : ∀ (l : List Term), C.normRows (encTs l) = encTs l
  | [] => rfl
  | t :: l => by simp only [encTs, C.normRows, encT_norm t, encTs_norm l]
end
theorem encT_len (t : Term) : (encT t).length = 3 := by rw [encT_eq]; rfl
structure Choice where
  ask : Int
  by_ : Int
  whole : Bool
  deriving Inhabited
structure Rule where
  ask : Int
  term : Term
  deriving Inhabited
structure Order where
  name : List UInt8
  accepts : Bool
  choices : List Choice
  rules : List Rule
  deriving Inhabited
def encChoice (c : Choice) : List C := [.int .i64 c.ask, .int .i64 c.by_, .bool c.whole]
def encRule (r : Rule) : List C := .int .i64 r.ask :: encT r.term
def encOrder (o : Order) : List C := [.str o.name, .bool o.accepts, lstC 3 (o.choices.map encChoice), lstC 4 (o.rules.map encRule)]
theorem encChoice_norm (c : Choice) : C.normRow (encChoice c) = encChoice c := rfl
theorem encRule_norm (r : Rule) : C.normRow (encRule r) = encRule r := by simp [encRule, C.normRow, C.norm, encT_norm]
theorem encOrder_norm (o : Order) : C.normRow (encOrder o) = encOrder o := by
  simp only [encOrder, C.normRow, C.norm, lstC_norm encChoice_norm, lstC_norm encRule_norm]
structure Cell where
  known : Bool
  n : Int
  deriving Inhabited
def encCell (c : Cell) : List C := [.bool c.known, .int .i64 c.n]
theorem encCell_norm (c : Cell) : C.normRow (encCell c) = encCell c := rfl
def encI (n : Int) : List C := [.int .i64 n]
@[simp] theorem normRow_int (k : IntKind) (n : Int) : C.normRow [.int k n] = [.int k n] := rfl
@[simp] theorem normRow_encI (n : Int) : C.normRow (encI n) = encI n := rfl
attribute [simp] encT_norm encChoice_norm encRule_norm encOrder_norm encCell_norm C.normRow
@[simp] theorem norm_int (k : IntKind) (n : Int) : (C.int k n).norm = .int k n := rfl
@[simp] theorem norm_bool (b : Bool) : (C.bool b).norm = .bool b := rfl
@[simp] theorem norm_str (s : List UInt8) : (C.str s).norm = .str s := rfl
@[simp] theorem norm_ro (row : List C) (off : Nat) : (C.ro row off).norm = .ro (C.normRow row) off := rfl
@[simp] theorem norm_fn (f : FuncId) (caps : List C) : (C.fn f caps).norm = .fn f (C.normRow caps) := rfl
@[simp] theorem normRows_T (l : List Term) : C.normRows (l.map encT) = l.map encT := normRows_eq encT_norm l
@[simp] theorem normRows_Ch (l : List Choice) : C.normRows (l.map encChoice) = l.map encChoice := normRows_eq encChoice_norm l
@[simp] theorem normRows_R (l : List Rule) : C.normRows (l.map encRule) = l.map encRule := normRows_eq encRule_norm l
@[simp] theorem normRows_O (l : List Order) : C.normRows (l.map encOrder) = l.map encOrder := normRows_eq encOrder_norm l
@[simp] theorem normRows_Ce (l : List Cell) : C.normRows (l.map encCell) = l.map encCell := normRows_eq encCell_norm l
@[simp] theorem normRows_ints (l : List Int) : C.normRows (ints l) = ints l := normRows_eq (fun _ => rfl) l
@[simp] theorem normRows_nil : C.normRows [] = [] := rfl
@[simp] theorem normRows_cons (r : List C) (l : List (List C)) : C.normRows (r :: l) = C.normRow r :: C.normRows l := rfl
@[simp] theorem ints_len (l : List Int) : (ints l).length = l.length := by simp [ints]
theorem ints_at {l : List Int} {i : Nat} (h : i < l.length) : (ints l).getD i [] = [.int .i64 l[i]] := by simp [ints, h]
@[simp] theorem ints_isEmpty (l : List Int) : (ints l).isEmpty = l.isEmpty := by cases l <;> rfl
theorem ints_snoc (l : List Int) (n : Int) : ints l ++ [[.int .i64 n]] = ints (l ++ [n]) := by simp [ints]
theorem ints_append (l m : List Int) : ints l ++ ints m = ints (l ++ m) := by simp [ints]
theorem r_vLen_lst (o : Nat → Option O) (sz : Nat) (rows : List (List C)) : vLen o (.k (.c (lstC sz rows))) = some (True, .int .i64 rows.length) := rfl
theorem r_vIaddr_lst (o : Nat → Option O) (sz : Nat) (rows : List (List C)) (k : IntKind) (n : Int) : vIaddr o sz (.k (.c (lstC sz rows))) (.k (.c (.int k n))) = some (0 ≤ n ∧ n < rows.length, .k (.pel sz rows n.toNat 0)) := by
  simp only [lstC, vIaddr, Option.some.injEq, Prod.mk.injEq]
  cases rows with
  | nil => simp; omega
  | cons a l =>
    refine ⟨?_, ?_⟩
    · simp
    · simp
theorem r_srcV_lst (os : OS) (sz : Nat) (rows : List (List C)) : srcV os sz (.k (.c (lstC sz rows))) = some (True, rows) := by
  simp only [lstC, srcV]
  cases rows <;> simp
@[simp] theorem norm_lst (sz : Nat) (rows : List (List C)) : (lstC sz rows).norm = lstC sz (C.normRows rows) := by
  unfold lstC
  simp only [C.norm]
  cases rows <;> simp [C.normRows]
@[simp] theorem norm_list (sz : Nat) (nl : Option Bool) (rows : List (List C)) : (C.list sz nl rows).norm = lstC sz (C.normRows rows) := by
  unfold lstC
  simp only [C.norm]
  cases rows <;> simp [C.normRows]
theorem r_ofRow_map (r : List C) : ofRow true (r.map Abs.K.c) = .agg r := by
  simp only [ofRow, pureRow_map, if_true]
theorem r_ofRow_take {r : List C} {n : Nat} (h : r.length = n) : ofRow true (List.take n (r.map Abs.K.c)) = .agg r := by
  rw [List.take_of_length_le (by simp; omega)]; exact r_ofRow_map r
theorem r_all_noRef (d : Nat) (r : List C) : (r.map Abs.K.c).all (Abs.K.noRef d) = true := by induction r <;> simp_all [Abs.K.noRef]
theorem r_map_scrub (τ : Nat) (r : List C) : (r.map Abs.K.c).map (Abs.K.scrub τ) = r.map Abs.K.c := by simp [Abs.K.scrub]
theorem r_map_nrm (r : List C) : (r.map Abs.K.c).map Abs.K.nrm = (C.normRow r).map Abs.K.c := by
  induction r with
  | nil => rfl
  | cons a r ih => simp only [List.map_cons, ih]; rfl
theorem r_map_frz (τ : Nat) (ob : O) (r : List C) : (r.map Abs.K.c).map (Abs.K.frz τ ob) = r.map Abs.K.c := by simp [Abs.K.frz]
theorem encRule_len (r : Rule) : (encRule r).length = 4 := by simp [encRule, encT_len]
theorem encOrder_len (r : Order) : (encOrder r).length = 4 := by simp [encOrder]
theorem encChoice_len (r : Choice) : (encChoice r).length = 3 := by simp [encChoice]
theorem encCell_len (r : Cell) : (encCell r).length = 2 := by simp [encCell]
theorem f_rule0 (r : Rule) : ofRow false (List.take 1 (List.map Abs.K.c (encRule r))) = .k (.c (.int .i64 r.ask)) := rfl
theorem g_rule1 (r : Rule) : List.take 3 (List.drop 1 (encRule r)) = encT r.term := by
  have : List.drop 1 (encRule r) = encT r.term := rfl
  rw [this, List.take_of_length_le (by rw [encT_len]; omega)]
theorem f_ch0 (c : Choice) : ofRow false (List.take 1 (List.map Abs.K.c (encChoice c))) = .k (.c (.int .i64 c.ask)) := rfl
theorem f_or2 (o : Order) : ofRow false (List.take 1 (List.drop 2 (List.map Abs.K.c (encOrder o)))) = .k (.c (lstC 3 (o.choices.map encChoice))) := rfl
theorem f_or3 (o : Order) : ofRow false (List.take 1 (List.drop 3 (List.map Abs.K.c (encOrder o)))) = .k (.c (lstC 4 (o.rules.map encRule))) := rfl
theorem len_rules {o : Order} {l : List V} (hm : V.agg (encOrder o) ∈ l) (h : ∀ v, v ∈ l → ∀ c, c ∈ v.topC → ∀ sz nl rows, c = .list sz nl rows → rows.length ≤ 9223372036854775807) :
    o.choices.length ≤ 9223372036854775807 ∧ o.rules.length ≤ 9223372036854775807 := by
  refine ⟨?_, ?_⟩
  · have := h _ hm (lstC 3 (o.choices.map encChoice)) (by simp [V.topC, encOrder]) _ _ _ rfl
    simpa using this
  · have := h _ hm (lstC 4 (o.rules.map encRule)) (by simp [V.topC, encOrder]) _ _ _ rfl
    simpa using this
theorem len_lst {sz : Nat} {rows : List (List C)} {l : List V} (hm : lst sz rows ∈ l) (h : ∀ v, v ∈ l → ∀ c, c ∈ v.topC → ∀ sz nl rows, c = .list sz nl rows → rows.length ≤ 9223372036854775807) : rows.length ≤ 9223372036854775807 :=
  h _ hm (lstC sz rows) (by simp [V.topC]) _ _ _ rfl
theorem b_tf : (true == false) = false := id rfl
theorem b_ft : (false == true) = false := id rfl
section
variable {P : Program} {f : FuncId} {vs : List V} {K : KK} {d : Nat} {ts : TS} {os : OS}
theorem call_s {args : List V} {r : V} {X : Prop} (hs : Spec P f args (fun r' => r' = r)) (hk : K (insT d r ts) os)
    (hp : vs.all (fun v => (lendL os v).isPure) = true := by simp [lendL, lendO, lookO, V.isPure])
    (ha : vs.map (fun v => (lendL os v).norm) = args := by simp [lendL, lendO, lookO, V.norm, encT_eq, encRule, encOrder, encChoice, encCell, norm_list, lst]) (hr : r.scalar = true := by rfl) : callK P f vs [] K (some d) ts os ∨ X := by
  refine .inl ⟨hp, r, .inl ?_, ?_⟩
  · simpa [ha] using hs
  · rw [if_pos hr]; exact hk
theorem call_c {cs : List C} {args : List V} {r : V} {X : Prop} (hs : Spec P f args (fun r' => r' = r)) (hk : K (insT d r ts) os)
    (hp : vs.all (fun v => (lendL os v).isPure) = true := by simp [lendL, lendO, lookO, V.isPure])
    (ha : (vs.map (fun v => (lendL os v).norm) ++ cs.map fun c => .k (.c c.norm)) = args := by simp [lendL, lendO, lookO, V.norm, encT_eq, encRule, encOrder, encChoice, encCell, norm_list, lst]) (hr : r.scalar = true := by rfl) : callK P f vs cs K (some d) ts os ∨ X := by
  refine .inl ⟨hp, r, .inl (by rw [ha]; exact hs), ?_⟩
  rw [if_pos hr]; exact hk
theorem call_r {args : List V} {r : V} {X : Prop} (hs : Spec P f args (fun r' => r' = r)) (hk : retK r K ts os (some d))
    (hp : vs.all (fun v => (lendL os v).isPure) = true := by simp [lendL, lendO, lookO, V.isPure])
    (ha : vs.map (fun v => (lendL os v).norm) = args := by simp [lendL, lendO, lookO, V.norm, encT_eq, encRule, encOrder, encChoice, encCell, norm_list, lst])
    (ht : vs.all (fun v => v.toks.isEmpty) = true := by simp [V.toks, K.toks]) (hr : r.scalar = false := by rfl) : callK P f vs [] K (some d) ts os ∨ X := by
  refine .inl ⟨hp, r, .inl (by simpa [ha] using hs), ?_⟩
  rw [if_neg (by simp [hr])]
  exact ⟨ht, hk⟩
theorem call_l {args : List V} {e sz : Nat} {nl : Option Bool} {rows : List (List C)} {X : Prop} (hs : Spec P f args (fun r' => r' = .k (.newl e sz nl rows))) (hk : K (insT d (.k (.own d)) ts) (insO d (.arr e sz nl rows) os))
    (hp : vs.all (fun v => (lendL os v).isPure) = true := by simp [lendL, lendO, lookO, V.isPure])
    (ha : vs.map (fun v => (lendL os v).norm) = args := by simp [lendL, lendO, lookO, V.norm, encT_eq, encRule, encOrder, encChoice, encCell, norm_list, lst])
    (ht : vs.all (fun v => v.toks.isEmpty) = true := by simp [V.toks, K.toks]) (hf : freeB d ts os := by first | rfl | simp [freeB, freeT, freeO, V.noRef, V.noRefL, O.noRef, Abs.K.noRef, r_all_noRef]) : callK P f vs [] K (some d) ts os ∨ X := by
  refine .inl ⟨hp, _, .inl (by simpa [ha] using hs), ?_⟩
  rw [if_neg (by simp [V.scalar])]
  refine ⟨ht, ?_⟩
  show regK _ _ _ _ _ _
  refine ⟨⟨⟨hf, .inl rfl⟩, trivial⟩, hk⟩
theorem callQ_s {args : List V} {r : V} (hs : Spec P f args (fun r' => r' = r)) (hk : K (insT d r.fz ts) os)
    (hp : vs.all (fun v => (lendL os v).isPure) = true := by simp [lendL, lendO, lookO, V.isPure])
    (ha : vs.map (fun v => (lendL os v).norm) = args := by simp [lendL, lendO, lookO, V.norm, encT_eq, encRule, encOrder, encChoice, encCell, norm_list, lst]) (hr : r.scalar = true := by rfl) : callQK P f vs [] K d ts os :=
  ⟨hp, r, by simpa [ha] using hs, .inl hr, hk⟩
theorem callQ_l {args : List V} {r : V} (hs : Spec P f args (fun r' => r' = r)) (hk : K (insT d r.fz ts) os)
    (hp : vs.all (fun v => (lendL os v).isPure) = true := by simp [lendL, lendO, lookO, V.isPure])
    (ha : vs.map (fun v => (lendL os v).norm) = args := by simp [lendL, lendO, lookO, V.norm, encT_eq, encRule, encOrder, encChoice, encCell, norm_list, lst]) (hr : vs.all (fun v => v.toks.isEmpty) = true := by simp [V.toks, K.toks]) : callQK P f vs [] K d ts os :=
  ⟨hp, r, by simpa [ha] using hs, .inr hr, hk⟩
theorem call_scalar {args : List V} {r : V} {X : Prop} (hs : Spec P f args (fun r' => r' = r)) (hp : vs.all (fun v => (lendL os v).isPure) = true) (ha : vs.map (fun v => (lendL os v).norm) = args) (hr : r.scalar = true)
    (hk : K (insT d r ts) os) : callK P f vs [] K (some d) ts os ∨ X := by
  refine .inl ⟨hp, r, .inl ?_, ?_⟩
  · simpa [ha] using hs
  · rw [if_pos hr]; exact hk
theorem callQ_scalar {args : List V} {r : V} (hs : Spec P f args (fun r' => r' = r)) (hp : vs.all (fun v => (lendL os v).isPure) = true) (ha : vs.map (fun v => (lendL os v).norm) = args) (hr : r.scalar = true)
    (hk : K (insT d r.fz ts) os) : callQK P f vs [] K d ts os :=
  ⟨hp, r, by simpa [ha] using hs, .inl hr, hk⟩
end
end Go.Abs


set_option maxRecDepth 100000
namespace Go.Abs
theorem Qs : (((((((type_of% @q_insT_eq_1 ∧ type_of% @lookT_here) ∧ (type_of% @q_look_eq_1 ∧ type_of% @true_and)) ∧ ((type_of% @q_wpLs_eq_2 ∧ type_of% @q_wpL_eq_1) ∧ (type_of% @lookT_next ∧ (type_of% @q_wpLs_eq_1 ∧ type_of% @q_AE_thenL_eq_1)))) ∧ (((type_of% @q_putK_eq_1 ∧ type_of% @q_exL_eq_1) ∧ (type_of% @q_awl_eq_5 ∧ type_of% @q_awl_eq_2)) ∧ ((type_of% @and_self ∧ type_of% @q_List_map_nil) ∧ (type_of% @q_List_map_cons ∧ (type_of% @Nat.zero_add ∧ type_of% @q_look_eq_2))))) ∧ ((((type_of% @lookO_here ∧ type_of% @Nat.le_refl) ∧ (type_of% @q_awl_eq_6 ∧ type_of% @q_learn_eq_1)) ∧ ((type_of% @q_condK_eq_1 ∧ type_of% @q_mapT_eq_1) ∧ (type_of% @q_mapT_eq_2 ∧ (type_of% @q_mapO_eq_1 ∧ type_of% @q_List_drop_zero)))) ∧ (((type_of% @q_resL_eq_1 ∧ type_of% @q_V_nrm_eq_1) ∧ (type_of% @q_K_nrm_eq_1 ∧ (type_of% @q_C_norm_eq_4 ∧ type_of% @q_awl_eq_10))) ∧ ((type_of% @q_endK_eq_2 ∧ type_of% @q_endL_eq_1) ∧ (type_of% @q_endV_eq_1 ∧ (type_of% @q_resL_eq_2 ∧ type_of% @q_vBin_eq_1)))))) ∧ (((((type_of% @q_resV_eq_1 ∧ type_of% @q_binV_eq_1) ∧ (type_of% @q_binInt_eq_3 ∧ type_of% @q_exL_eq_11)) ∧ ((type_of% @q_C_norm_eq_5 ∧ type_of% @q_insO_eq_1) ∧ (type_of% @q_List_length_nil ∧ (type_of% @q_List_length_cons ∧ type_of% @q_mapO_eq_2)))) ∧ (((type_of% @q_List_take_zero ∧ type_of% @q_exL_eq_8) ∧ (type_of% @q_loadO_eq_1 ∧ (type_of% @q_isV_eq_1 ∧ type_of% @q_vLoad_eq_1))) ∧ ((type_of% @q_K_nrm_eq_3 ∧ type_of% @q_O_nrm_eq_1) ∧ (type_of% @q_List_drop_succ_cons ∧ (type_of% @q_List_take_succ_cons ∧ type_of% @q_Option_map_some))))) ∧ ((((type_of% @q_awl_eq_1 ∧ type_of% @q_resX_eq_1) ∧ (type_of% @q_V_owns_eq_1 ∧ type_of% @q_V_toNew_eq_1)) ∧ ((type_of% @q_pureRow_eq_1 ∧ type_of% @q_pureRow_eq_2) ∧ (type_of% @lookO_next ∧ (type_of% @q_condB_eq_1 ∧ type_of% @q_AE_thenL_eq_3)))) ∧ (((type_of% @q_V_nrm_eq_2 ∧ type_of% @q_List_nil_append) ∧ (type_of% @q_one_eq_1 ∧ (type_of% @q_condB_eq_2 ∧ type_of% @q_splice_eq_1))) ∧ ((type_of% @Bool.and_true ∧ type_of% @q_freeB_eq_1) ∧ (type_of% @q_freeT_eq_1 ∧ (type_of% @q_freeT_eq_2 ∧ type_of% @q_freeO_eq_1))))))) ∧ ((((((type_of% @Bool.or_true ∧ type_of% @q_stVarK_eq_1) ∧ (type_of% @q_storeK_eq_1 ∧ type_of% @not_false_eq_true)) ∧ ((type_of% @q_K_owns_eq_2 ∧ type_of% @q_K_toNew_eq_1) ∧ (type_of% @q_V_cells_eq_2 ∧ (type_of% @q_V_noRef_eq_1 ∧ type_of% @norm_lst)))) ∧ (((type_of% @Bool.false_eq_true ∧ type_of% @q_K_noRef_eq_1) ∧ (type_of% @q_exL_eq_9 ∧ type_of% @q_C_normRow_eq_1)) ∧ ((type_of% @q_C_normRow_eq_2 ∧ type_of% @q_V_noRef_eq_2) ∧ (type_of% @q_exL_eq_28 ∧ (type_of% @q_exL_eq_21 ∧ type_of% @q_isVarO_eq_1))))) ∧ ((((type_of% @q_vFaddr_eq_1 ∧ type_of% @q_ofRow_eq_2) ∧ (type_of% @q_initT_eq_1 ∧ type_of% @q_awl_eq_7)) ∧ ((type_of% @q_initT_eq_2 ∧ type_of% @q_cutInt_eq_8) ∧ (type_of% @Nat.add_zero ∧ (type_of% @q_freeO_eq_2 ∧ type_of% @Bool.false_or)))) ∧ (((type_of% @q_ofRow_eq_1 ∧ type_of% @q_K_noRef_eq_3) ∧ (type_of% @q_O_noRef_eq_1 ∧ (type_of% @q_resX_eq_2 ∧ type_of% @q_resCell_eq_1))) ∧ ((type_of% @q_V_owns_eq_4 ∧ type_of% @q_V_toNew_eq_2) ∧ (type_of% @normRows_Ce ∧ (type_of% @q_cutInt_eq_6 ∧ type_of% @q_exL_eq_3)))))) ∧ (((((type_of% @q_exL_eq_4 ∧ type_of% @q_AOp_dst_eq_1) ∧ (type_of% @q_List_all_cons ∧ type_of% @q_List_all_nil)) ∧ ((type_of% @q_AE_inBlockL_eq_3 ∧ type_of% @q_Bool_not_true) ∧ (type_of% @q_vPick_eq_1 ∧ (type_of% @q_one_eq_2 ∧ type_of% @decide_false)))) ∧ (((type_of% @q_V_owns_eq_3 ∧ type_of% @q_V_ownsL_eq_1) ∧ (type_of% @q_V_ownsL_eq_2 ∧ (type_of% @q_V_toNew_eq_4 ∧ type_of% @q_V_toNewL_eq_1))) ∧ ((type_of% @q_V_toNewL_eq_2 ∧ type_of% @Bool.true_and) ∧ (type_of% @q_exK_eq_1 ∧ (type_of% @q_wpLQ_eq_1 ∧ type_of% @q_exL_eq_30))))) ∧ ((((type_of% @normRows_T ∧ type_of% @q_AOp_dst_eq_10) ∧ (type_of% @q_exL_eq_23 ∧ type_of% @Bool.and_eq_true)) ∧ ((type_of% @q_vBuild_eq_1 ∧ type_of% @q_rowV_eq_1) ∧ (type_of% @q_Bool_not_false ∧ (type_of% @q_List_getElemQ_cons_zero ∧ type_of% @q_List_getElemQ_cons_succ)))) ∧ (((type_of% @q_exL_eq_6 ∧ type_of% @q_vExtr_eq_1) ∧ (type_of% @decide_true ∧ (type_of% @q_O_nrm_eq_2 ∧ type_of% @r_vLen_lst))) ∧ ((type_of% @r_ofRow_take ∧ type_of% @q_guardP_eq_1) ∧ (type_of% @q_lookO_eq_1 ∧ (type_of% @q_vLoad_eq_2 ∧ type_of% @r_map_nrm)))))))) := ⟨⟨⟨⟨⟨⟨⟨@q_insT_eq_1, @lookT_here⟩, ⟨@q_look_eq_1, @true_and⟩⟩, ⟨⟨@q_wpLs_eq_2, @q_wpL_eq_1⟩, ⟨@lookT_next, ⟨@q_wpLs_eq_1, @q_AE_thenL_eq_1⟩⟩⟩⟩, ⟨⟨⟨@q_putK_eq_1, @q_exL_eq_1⟩, ⟨@q_awl_eq_5, @q_awl_eq_2⟩⟩, ⟨⟨@and_self, @q_List_map_nil⟩, ⟨@q_List_map_cons, ⟨@Nat.zero_add, @q_look_eq_2⟩⟩⟩⟩⟩, ⟨⟨⟨⟨@lookO_here, @Nat.le_refl⟩, ⟨@q_awl_eq_6, @q_learn_eq_1⟩⟩, ⟨⟨@q_condK_eq_1, @q_mapT_eq_1⟩, ⟨@q_mapT_eq_2, ⟨@q_mapO_eq_1, @q_List_drop_zero⟩⟩⟩⟩, ⟨⟨⟨@q_resL_eq_1, @q_V_nrm_eq_1⟩, ⟨@q_K_nrm_eq_1, ⟨@q_C_norm_eq_4, @q_awl_eq_10⟩⟩⟩, ⟨⟨@q_endK_eq_2, @q_endL_eq_1⟩, ⟨@q_endV_eq_1, ⟨@q_resL_eq_2, @q_vBin_eq_1⟩⟩⟩⟩⟩⟩, ⟨⟨⟨⟨⟨@q_resV_eq_1, @q_binV_eq_1⟩, ⟨@q_binInt_eq_3, @q_exL_eq_11⟩⟩, ⟨⟨@q_C_norm_eq_5, @q_insO_eq_1⟩, ⟨@q_List_length_nil, ⟨@q_List_length_cons, @q_mapO_eq_2⟩⟩⟩⟩, ⟨⟨⟨@q_List_take_zero, @q_exL_eq_8⟩, ⟨@q_loadO_eq_1, ⟨@q_isV_eq_1, @q_vLoad_eq_1⟩⟩⟩, ⟨⟨@q_K_nrm_eq_3, @q_O_nrm_eq_1⟩, ⟨@q_List_drop_succ_cons, ⟨@q_List_take_succ_cons, @q_Option_map_some⟩⟩⟩⟩⟩, ⟨⟨⟨⟨@q_awl_eq_1, @q_resX_eq_1⟩, ⟨@q_V_owns_eq_1, @q_V_toNew_eq_1⟩⟩, ⟨⟨@q_pureRow_eq_1, @q_pureRow_eq_2⟩, ⟨@lookO_next, ⟨@q_condB_eq_1, @q_AE_thenL_eq_3⟩⟩⟩⟩, ⟨⟨⟨@q_V_nrm_eq_2, @q_List_nil_append⟩, ⟨@q_one_eq_1, ⟨@q_condB_eq_2, @q_splice_eq_1⟩⟩⟩, ⟨⟨@Bool.and_true, @q_freeB_eq_1⟩, ⟨@q_freeT_eq_1, ⟨@q_freeT_eq_2, @q_freeO_eq_1⟩⟩⟩⟩⟩⟩⟩, ⟨⟨⟨⟨⟨⟨@Bool.or_true, @q_stVarK_eq_1⟩, ⟨@q_storeK_eq_1, @not_false_eq_true⟩⟩, ⟨⟨@q_K_owns_eq_2, @q_K_toNew_eq_1⟩, ⟨@q_V_cells_eq_2, ⟨@q_V_noRef_eq_1, @norm_lst⟩⟩⟩⟩, ⟨⟨⟨@Bool.false_eq_true, @q_K_noRef_eq_1⟩, ⟨@q_exL_eq_9, @q_C_normRow_eq_1⟩⟩, ⟨⟨@q_C_normRow_eq_2, @q_V_noRef_eq_2⟩, ⟨@q_exL_eq_28, ⟨@q_exL_eq_21, @q_isVarO_eq_1⟩⟩⟩⟩⟩, ⟨⟨⟨⟨@q_vFaddr_eq_1, @q_ofRow_eq_2⟩, ⟨@q_initT_eq_1, @q_awl_eq_7⟩⟩, ⟨⟨@q_initT_eq_2, @q_cutInt_eq_8⟩, ⟨@Nat.add_zero, ⟨@q_freeO_eq_2, @Bool.false_or⟩⟩⟩⟩, ⟨⟨⟨@q_ofRow_eq_1, @q_K_noRef_eq_3⟩, ⟨@q_O_noRef_eq_1, ⟨@q_resX_eq_2, @q_resCell_eq_1⟩⟩⟩, ⟨⟨@q_V_owns_eq_4, @q_V_toNew_eq_2⟩, ⟨@normRows_Ce, ⟨@q_cutInt_eq_6, @q_exL_eq_3⟩⟩⟩⟩⟩⟩, ⟨⟨⟨⟨⟨@q_exL_eq_4, @q_AOp_dst_eq_1⟩, ⟨@q_List_all_cons, @q_List_all_nil⟩⟩, ⟨⟨@q_AE_inBlockL_eq_3, @q_Bool_not_true⟩, ⟨@q_vPick_eq_1, ⟨@q_one_eq_2, @decide_false⟩⟩⟩⟩, ⟨⟨⟨@q_V_owns_eq_3, @q_V_ownsL_eq_1⟩, ⟨@q_V_ownsL_eq_2, ⟨@q_V_toNew_eq_4, @q_V_toNewL_eq_1⟩⟩⟩, ⟨⟨@q_V_toNewL_eq_2, @Bool.true_and⟩, ⟨@q_exK_eq_1, ⟨@q_wpLQ_eq_1, @q_exL_eq_30⟩⟩⟩⟩⟩, ⟨⟨⟨⟨@normRows_T, @q_AOp_dst_eq_10⟩, ⟨@q_exL_eq_23, @Bool.and_eq_true⟩⟩, ⟨⟨@q_vBuild_eq_1, @q_rowV_eq_1⟩, ⟨@q_Bool_not_false, ⟨@q_List_getElemQ_cons_zero, @q_List_getElemQ_cons_succ⟩⟩⟩⟩, ⟨⟨⟨@q_exL_eq_6, @q_vExtr_eq_1⟩, ⟨@decide_true, ⟨@q_O_nrm_eq_2, @r_vLen_lst⟩⟩⟩, ⟨⟨@r_ofRow_take, @q_guardP_eq_1⟩, ⟨@q_lookO_eq_1, ⟨@q_vLoad_eq_2, @r_map_nrm⟩⟩⟩⟩⟩⟩⟩⟩
end Go.Abs


namespace Go.Abs
section
variable {P : Program}
theorem shape_int {n : Nat} {t : TypeId} {r : List C} {k : IntKind} (hu : P.underlying t = some (.int k)) (h : Shape P n t r) : ∃ m : Int, r = [.int k m] ∧ (Lit.int k m).wf = true := by
  cases n with
  | zero => exact h.elim
  | succ n => simp only [Shape, hu] at h; exact h
theorem shape_bool {n : Nat} {t : TypeId} {r : List C} (hu : P.underlying t = some .bool) (h : Shape P n t r) : ∃ b : Bool, r = [.bool b] := by
  cases n with
  | zero => exact h.elim
  | succ n => simp only [Shape, hu] at h; exact h
theorem shape_str {n : Nat} {t : TypeId} {r : List C} (hu : P.underlying t = some .string) (h : Shape P n t r) : ∃ s : List UInt8, r = [.str s] ∧ s.length ≤ 9223372036854775807 := by
  cases n with
  | zero => exact h.elim
  | succ n => simp only [Shape, hu] at h; exact h
theorem shape_slice {n : Nat} {t e : TypeId} {r : List C} (hu : P.underlying t = some (.slice e)) (h : Shape P n t r) : ∃ m rows, n = m + 1 ∧ r = [lstC (P.cellsOf e) rows] ∧ rows.length ≤ 9223372036854775807 ∧ ∀ x ∈ rows, Shape P m e x := by
  cases n with
  | zero => exact h.elim
  | succ n => simp only [Shape, hu] at h; obtain ⟨rows, h1, h2, h3⟩ := h; exact ⟨n, rows, rfl, h1, h2, h3⟩
theorem shape_struct {n : Nat} {t : TypeId} {fs : Array Field} {r : List C} (hu : P.underlying t = some (.struct fs)) (h : Shape P n t r) : ∃ m rs, n = m + 1 ∧ r = rs.flatten ∧ ShapeL (Shape P m) (fs.toList.map (·.type)) rs := by
  cases n with
  | zero => exact h.elim
  | succ n => simp only [Shape, hu] at h; obtain ⟨rs, h1, h2⟩ := h; exact ⟨n, rs, rfl, h1, h2⟩
theorem shapeL2 {S : TypeId → List C → Prop} {a b : TypeId} {rs : List (List C)} (h : ShapeL S [a, b] rs) : ∃ x y, rs = [x, y] ∧ S a x ∧ S b y := by
  match rs, h with
  | [x, y], h => exact ⟨x, y, rfl, h.1, h.2.1⟩
theorem shapeL3 {S : TypeId → List C → Prop} {a b c : TypeId} {rs : List (List C)} (h : ShapeL S [a, b, c] rs) : ∃ x y z, rs = [x, y, z] ∧ S a x ∧ S b y ∧ S c z := by
  match rs, h with
  | [x, y, z], h => exact ⟨x, y, z, rfl, h.1, h.2.1, h.2.2.1⟩
theorem shapeL4 {S : TypeId → List C → Prop} {a b c d : TypeId} {rs : List (List C)} (h : ShapeL S [a, b, c, d] rs) : ∃ x y z u, rs = [x, y, z, u] ∧ S a x ∧ S b y ∧ S c z ∧ S d u := by
  match rs, h with
  | [x, y, z, u], h => exact ⟨x, y, z, u, rfl, h.1, h.2.1, h.2.2.1, h.2.2.2.1⟩
theorem rows_of {α : Type} {S : List C → Prop} (enc : α → List C) (hS : ∀ r, S r → ∃ a, r = enc a) : ∀ (rows : List (List C)), (∀ r ∈ rows, S r) → ∃ l : List α, rows = l.map enc
  | [], _ => ⟨[], rfl⟩
  | r :: rows, h => by
    obtain ⟨a, ha⟩ := hS r (h r (by simp))
    obtain ⟨l, hl⟩ := rows_of enc hS rows (fun x hx => h x (by simp [hx]))
    exact ⟨a :: l, by rw [ha, hl]; rfl⟩
structure TermTypes (P : Program) (tI tB tS tT tLT tR tLR tC tLC tO : TypeId) : Prop where
  i : P.underlying tI = some (.int .i64)
  b : P.underlying tB = some .bool
  s : P.underlying tS = some .string
  t : ∃ fs, P.underlying tT = some (.struct fs) ∧ fs.toList.map (·.type) = [tI, tI, tLT]
  lt : P.underlying tLT = some (.slice tT) ∧ P.cellsOf tT = 3
  r : ∃ fs, P.underlying tR = some (.struct fs) ∧ fs.toList.map (·.type) = [tI, tT]
  lr : P.underlying tLR = some (.slice tR) ∧ P.cellsOf tR = 4
  c : ∃ fs, P.underlying tC = some (.struct fs) ∧ fs.toList.map (·.type) = [tI, tI, tB]
  lc : P.underlying tLC = some (.slice tC) ∧ P.cellsOf tC = 3
  o : ∃ fs, P.underlying tO = some (.struct fs) ∧ fs.toList.map (·.type) = [tS, tB, tLC, tLR]
variable {tI tB tS tT tLT tR tLR tC tLC tO : TypeId}
theorem shape_term (h : TermTypes P tI tB tS tT tLT tR tLR tC tLC tO) : ∀ (n : Nat) (r : List C), Shape P n tT r → ∃ t : Term, r = encT t := by
  intro n
  induction n using Nat.strongRecOn with
  | ind n ih =>
    intro r hr
    obtain ⟨fs, hf, hl⟩ := h.t
    obtain ⟨m, rs, rfl, rfl, hs⟩ := shape_struct hf hr
    rw [hl] at hs
    obtain ⟨x, y, z, rfl, h1, h2, h3⟩ := shapeL3 hs
    obtain ⟨op, rfl, _⟩ := shape_int h.i h1
    obtain ⟨k, rfl, _⟩ := shape_int h.i h2
    obtain ⟨m', rows, rfl, rfl, _, h4⟩ := shape_slice h.lt.1 h3
    obtain ⟨l, rfl⟩ := rows_of encT (fun r hr => ih m' (by omega) r hr) rows h4
    exact ⟨.mk op k l, by rw [encT_eq, h.lt.2]; rfl⟩
theorem shape_rule (h : TermTypes P tI tB tS tT tLT tR tLR tC tLC tO) {n : Nat} {r : List C} (hr : Shape P n tR r) : ∃ x : Rule, r = encRule x := by
  obtain ⟨fs, hf, hl⟩ := h.r
  obtain ⟨m, rs, rfl, rfl, hs⟩ := shape_struct hf hr
  rw [hl] at hs
  obtain ⟨x, y, rfl, h1, h2⟩ := shapeL2 hs
  obtain ⟨a, rfl, _⟩ := shape_int h.i h1
  obtain ⟨t, rfl⟩ := shape_term h m y h2
  exact ⟨⟨a, t⟩, by simp [encRule]⟩
theorem shape_choice (h : TermTypes P tI tB tS tT tLT tR tLR tC tLC tO) {n : Nat} {r : List C} (hr : Shape P n tC r) : ∃ x : Choice, r = encChoice x := by
  obtain ⟨fs, hf, hl⟩ := h.c
  obtain ⟨m, rs, rfl, rfl, hs⟩ := shape_struct hf hr
  rw [hl] at hs
  obtain ⟨x, y, z, rfl, h1, h2, h3⟩ := shapeL3 hs
  obtain ⟨a, rfl, _⟩ := shape_int h.i h1
  obtain ⟨b, rfl, _⟩ := shape_int h.i h2
  obtain ⟨c, rfl⟩ := shape_bool h.b h3
  exact ⟨⟨a, b, c⟩, rfl⟩
theorem shape_order (h : TermTypes P tI tB tS tT tLT tR tLR tC tLC tO) {n : Nat} {r : List C} (hr : Shape P n tO r) : ∃ x : Order, r = encOrder x := by
  obtain ⟨fs, hf, hl⟩ := h.o
  obtain ⟨m, rs, rfl, rfl, hs⟩ := shape_struct hf hr
  rw [hl] at hs
  obtain ⟨x, y, z, u, rfl, h1, h2, h3, h4⟩ := shapeL4 hs
  obtain ⟨a, rfl, _⟩ := shape_str h.s h1
  obtain ⟨b, rfl⟩ := shape_bool h.b h2
  obtain ⟨_, rows, _, rfl, _, h5⟩ := shape_slice h.lc.1 h3
  obtain ⟨_, rows', _, rfl, _, h6⟩ := shape_slice h.lr.1 h4
  obtain ⟨l, rfl⟩ := rows_of encChoice (fun r hr => shape_choice h hr) rows h5
  obtain ⟨l', rfl⟩ := rows_of encRule (fun r hr => shape_rule h hr) rows' h6
  exact ⟨⟨a, b, l, l'⟩, by rw [h.lc.2, h.lr.2]; rfl⟩
theorem arg_order (h : TermTypes P tI tB tS tT tLT tR tLR tC tLC tO) {n : Nat} {r : List C} (hr : Shape P n tO r) : ∃ x : Order, argV P tO r = .agg (encOrder x) := by
  obtain ⟨x, rfl⟩ := shape_order h hr
  obtain ⟨fs, hf, _⟩ := h.o
  exact ⟨x, by simp only [argV, hf]⟩
theorem arg_int {n : Nat} {t : TypeId} {r : List C} {k : IntKind} (hu : P.underlying t = some (.int k)) (hr : Shape P n t r) : ∃ m : Int, argV P t r = .int k m ∧ (Lit.int k m).wf = true := by
  obtain ⟨m, rfl, h⟩ := shape_int hu hr
  exact ⟨m, by simp only [argV, hu], h⟩
end
end Go.Abs


namespace Go.Abs
section
variable {P : Program}
theorem shape_cell {n : Nat} {t tB tI : TypeId} {fs : Array Field} {r : List C} (ht : P.underlying t = some (.struct fs)) (hf : fs.toList.map (·.type) = [tB, tI]) (hb : P.underlying tB = some .bool) (hi : P.underlying tI = some (.int .i64)) (hr : Shape P n t r) : ∃ c : Cell, r = encCell c := by
  obtain ⟨m, rs, rfl, rfl, hs⟩ := shape_struct ht hr
  rw [hf] at hs
  obtain ⟨x, y, rfl, h1, h2⟩ := shapeL2 hs
  obtain ⟨b, rfl⟩ := shape_bool hb h1
  obtain ⟨k, rfl, _⟩ := shape_int hi h2
  exact ⟨⟨b, k⟩, rfl⟩
theorem arg_cells {n : Nat} {t e tB tI : TypeId} {fs : Array Field} {r : List C} (ht : P.underlying t = some (.slice e)) (he : P.underlying e = some (.struct fs)) (hf : fs.toList.map (·.type) = [tB, tI]) (hb : P.underlying tB = some .bool) (hi : P.underlying tI = some (.int .i64)) (hc : P.cellsOf e = 2)
    (hr : Shape P n t r) : ∃ l : List Cell, argV P t r = lst 2 (l.map encCell) := by
  obtain ⟨m, rows, rfl, rfl, _, h⟩ := shape_slice ht hr
  obtain ⟨l, rfl⟩ := rows_of encCell (fun r hr => shape_cell he hf hb hi hr) rows h
  exact ⟨l, by simp only [argV, ht, hc]⟩
def encB (b : Bool) : List C := [.bool b]
end
end Go.Abs


namespace Go.Abs
section
variable {P : Program} {tI tB tS tT tLT tR tLR tC tLC tO : TypeId}
end
end Go.Abs


namespace Go.Abs
def cut (n : Int) : Int := min (max n (-1099511627776)) 1099511627776
theorem cut_eq (n : Int) : cut n = n ↔ -1099511627776 ≤ n ∧ n ≤ 1099511627776 := by unfold cut; omega
def varType (v : Int) : Option Int := if v < 0 ∨ v > 19 then none else if v < 7 then some 0 else some 1
def varTypeV (v : Int) : V := .tup [.int .i64 ((varType v).getD 0), .bool (varType v).isSome]
def leaf (t : Term) : Int × Int :=
  if t.args.length > 0 then (0, 2) else if t.op = 0 then (if cut t.n ≠ t.n then (0, 3) else (0, 0)) else if t.op = 1 then (if t.n < 0 ∨ t.n > 1 then (0, 3) else (1, 0))
  else match varType t.n with | none => (0, 10) | some k => (k, 0)
def pairV (p : Int × Int) : V := .tup [.int .i64 p.1, .int .i64 p.2]
def arity (op : Int) : Int := if op = 0 ∨ op = 1 ∨ op = 2 then 0 else if op = 3 then 1 else if op = 6 then 3 else 2
mutual
def nodes : Term → Int → Int → Int
  | .mk _ _ a, k, lv => if lv < 1 then -1 else nodesL a (k - 1) (lv - 1)
def nodesL : List Term → Int → Int → Int
  | [], k, _ => k
  | t :: l, k, lv => if k < 0 then k else nodesL l (nodes t k lv) lv
end
theorem nodes_eq (t : Term) (k lv : Int) : nodes t k lv = if lv < 1 then -1 else nodesL t.args (k - 1) (lv - 1) := by cases t; simp [nodes, Term.args]
mutual
theorem nodes_bd : ∀ (t : Term) (k lv : Int), 0 ≤ k → -1 ≤ nodes t k lv ∧ nodes t k lv ≤ k
  | .mk _ _ a, k, lv, h => by
    simp only [nodes]
    split
    · omega
    · have := nodesL_bd a (k - 1) (lv - 1) (by omega); omega
theorem nodesL_bd : ∀ (l : List Term) (k lv : Int), -1 ≤ k → -1 ≤ nodesL l k lv ∧ nodesL l k lv ≤ k
  | [], k, lv, h => by simp [nodesL, h]
  | t :: l, k, lv, h => by
    simp only [nodesL]
    split
    · omega
    · have h1 := nodes_bd t k lv (by omega)
      have := nodesL_bd l (nodes t k lv) lv h1.1
      omega
end
theorem nodesL_drop {l : List Term} {i : Nat} (h : i < l.length) (k lv : Int) : nodesL (l.drop i) k lv = if k < 0 then k else nodesL (l.drop (i + 1)) (nodes l[i] k lv) lv := by
  rw [List.drop_eq_getElem_cons h, nodesL]
theorem nodesL_neg (l : List Term) (k lv : Int) (h : k < 0) : nodesL l k lv = k := by
  cases l <;> simp [nodesL, h]
theorem norm_T (t : Term) : C.normRow [C.int .i64 t.op, C.int .i64 t.n, C.list (if (List.map encT t.args).isEmpty = true then 0 else 3) none (List.map encT t.args)] = encT t := by
  have h := encT_norm t
  rw [encT_eq] at h
  exact h.trans (encT_eq t).symm
def measL (m : Term → Int) : List Term → Int → Int
  | [], n => n
  | a :: l, n => if n + m a > 60 then n + m a else measL m l (n + m a)
def meas : Nat → Term → Int
  | 0, _ => 61
  | f + 1, t => measL (meas f) t.args 1
theorem measL_bd {m : Term → Int} {M : Int} (hm : ∀ a, 1 ≤ m a ∧ m a ≤ M) (hM : 1 ≤ M) : ∀ (l : List Term) (n : Int), 1 ≤ n → n ≤ 60 → 1 ≤ measL m l n ∧ measL m l n ≤ 60 + M
  | [], n, h1, h2 => by simp only [measL]; omega
  | a :: l, n, h1, h2 => by
    simp only [measL]
    have := hm a
    split
    · omega
    · exact measL_bd hm hM l _ (by omega) (by omega)
theorem meas_bd : ∀ (f : Nat) (t : Term), 1 ≤ meas f t ∧ meas f t ≤ 61 + 60 * f
  | 0, t => by simp [meas]
  | f + 1, t => by
    have := measL_bd (m := meas f) (M := 61 + 60 * f) (meas_bd f) (by omega) t.args 1 (by omega) (by omega)
    simp only [meas]
    omega
theorem measL_drop {m : Term → Int} {l : List Term} {i : Nat} (h : i < l.length) (n : Int) : measL m (l.drop i) n = if n + m l[i] > 60 then n + m l[i] else measL m (l.drop (i + 1)) (n + m l[i]) := by
  rw [List.drop_eq_getElem_cons h, measL]
def shapeArgs (op : Int) : List Int := if op = 3 then [1] else if op = 4 ∨ op = 5 then [1, 1] else if op = 6 then [1, -1, -1] else if op = 7 then [0, 0] else if op = 8 then [-1, -1] else [0, 0]
def shapeRes (op : Int) : Int := if op = 3 then 1 else if op = 4 ∨ op = 5 then 1 else if op = 6 then -1 else if op = 7 then 1 else if op = 8 then 1 else 0
def shapeV (op : Int) : V := .agk [.newl 3 1 none (ints (shapeArgs op)), .c (.int .i64 (shapeRes op))]
def fit : List Int → List Int → Int → Option Int
  | [], _, c => some c
  | _, [], c => some c
  | w :: ws, ty :: tys, c =>
    let c' := if w = -1 ∧ c = -1 then ty else c
    if ty ≠ (if w = -1 then c' else w) then none else fit ws tys c'
def node (t : Term) (tys : List Int) : Int × Int :=
  if t.op < 0 ∨ t.op > 13 then (0, 1) else if t.op = 0 ∨ t.op = 1 ∨ t.op = 2 then leaf t
  else if tys.length ≠ (shapeArgs t.op).length ∨ t.n ≠ 0 then (0, 2)
  else match fit (shapeArgs t.op) tys (-1) with
    | none => (0, 11)
    | some c => if shapeRes t.op = -1 then (c, 0) else (shapeRes t.op, 0)
mutual
def chk : Term → Int × Int
  | .mk o n a => if (chkA a []).1 ≠ 0 then (0, (chkA a []).1) else node (.mk o n a) (chkA a []).2
def chkA : List Term → List Int → Int × List Int
  | [], ty => (0, ty)
  | t :: l, ty => if (chk t).2 ≠ 0 then ((chk t).2, []) else chkA l (ty ++ [(chk t).1])
end
theorem chk_eq (t : Term) : chk t = if (chkA t.args []).1 ≠ 0 then (0, (chkA t.args []).1) else node t (chkA t.args []).2 := by cases t; simp only [chk, Term.args]; rfl
theorem chkA_drop {l : List Term} {i : Nat} (h : i < l.length) (ty : List Int) : chkA (l.drop i) ty = if (chk l[i]).2 ≠ 0 then ((chk l[i]).2, []) else chkA (l.drop (i + 1)) (ty ++ [(chk l[i]).1]) := by
  rw [List.drop_eq_getElem_cons h, chkA]
def Narrow : Nat → Term → Prop
  | 0, _ => False
  | f + 1, t => t.args.length ≤ 1000 ∧ ∀ a ∈ t.args, Narrow f a
theorem set_at {l : List Int} {n : Nat} {x : Int} {i : Nat} (hl : l.length = i) (h : i < n) :
    (ints l ++ List.replicate (n - i) [C.int .i64 0]).set i [C.int .i64 x] = ints (l ++ [x]) ++ List.replicate (n - (i + 1)) [C.int .i64 0] := by
  obtain ⟨m, hm⟩ : ∃ m, n - i = m + 1 := ⟨n - i - 1, by omega⟩
  have hm2 : n - (i + 1) = m := by omega
  rw [hm, hm2, List.replicate_succ, List.set_append_right _ _ (by simp [ints, hl])]
  simp [ints, hl]
theorem fit_drop {ws tys : List Int} {j : Nat} (h1 : j < ws.length) (h2 : j < tys.length) (c : Int) : fit (ws.drop j) (tys.drop j) c =
    if tys[j] ≠ (if ws[j] = -1 then (if ws[j] = -1 ∧ c = -1 then tys[j] else c) else ws[j]) then none else fit (ws.drop (j + 1)) (tys.drop (j + 1)) (if ws[j] = -1 ∧ c = -1 then tys[j] else c) := by
  rw [List.drop_eq_getElem_cons h1, List.drop_eq_getElem_cons h2, fit]
theorem fit_end (ws tys : List Int) (c : Int) (h : ws = []) : fit ws tys c = some c := by subst h; cases tys <;> rfl
theorem shape_small (op : Int) : (shapeArgs op).length ≤ 3 := by unfold shapeArgs; (repeat' split) <;> simp
end Go.Abs


namespace Go.Abs
theorem Term.ind {P : Term → Prop} (h : ∀ o n a, (∀ x ∈ a, P x) → P (.mk o n a)) : ∀ t, P t := by
  have key : ∀ k, ∀ t : Term, SizeOf.sizeOf t < k → P t := by
    intro k
    induction k with
    | zero => intro t ht; omega
    | succ k ih =>
      rintro ⟨o, n, a⟩ ht
      refine h o n a fun x hx => ih x ?_
      have := List.sizeOf_lt_of_mem hx
      simp at ht
      omega
  exact fun t => key _ t (Nat.lt_succ_self _)
def checkT (t : Term) : Int × Int := if nodes t 60 8 < 0 then (0, 6) else chk t
def few (t : Term) : Bool := decide (nodes t 100 20 ≥ 0)
theorem measL_ge {m : Term → Int} (hm : ∀ a, 1 ≤ m a) : ∀ (l : List Term) (n : Int), n ≤ measL m l n
  | [], n => by simp [measL]
  | b :: l, n => by
    have := hm b
    have := measL_ge hm l (n + m b)
    simp only [measL]; split <;> omega
theorem meas_nodes : ∀ (f : Nat),
    (∀ (t : Term) (c : Int), 0 ≤ c → c < 60 → (nodes t (60 - c) f < 0 ↔ c + meas f t > 60) ∧ (0 ≤ nodes t (60 - c) f → nodes t (60 - c) f = 60 - c - meas f t)) ∧
    (∀ (l : List Term) (c n : Int), 0 ≤ c → 1 ≤ n → c + n ≤ 60 → (nodesL l (60 - c - n) f < 0 ↔ c + measL (meas f) l n > 60) ∧ (0 ≤ nodesL l (60 - c - n) f → nodesL l (60 - c - n) f = 60 - c - measL (meas f) l n)) := by
  intro f
  induction f with
  | zero =>
    have h1 : ∀ (t : Term) (c : Int), 0 ≤ c → c < 60 → (nodes t (60 - c) ((0 : Nat) : Int) < 0 ↔ c + meas 0 t > 60) ∧ (0 ≤ nodes t (60 - c) ((0 : Nat) : Int) → nodes t (60 - c) ((0 : Nat) : Int) = 60 - c - meas 0 t) := by
      intro t c hc h60
      rw [nodes_eq, if_pos (by omega)]
      simp only [meas]
      omega
    refine ⟨h1, fun l => ?_⟩
    cases l with
    | nil =>
      intro c n hc hn h
      show (60 - c - n < 0 ↔ c + n > 60) ∧ (0 ≤ 60 - c - n → 60 - c - n = 60 - c - n)
      exact ⟨by omega, fun _ => rfl⟩
    | cons a l =>
      intro c n hc hn h
      have e1 : nodes a (60 - c - n) ((0 : Nat) : Int) = -1 := by rw [nodes_eq, if_pos (by omega)]
      have h0 : ¬ (60 - c - n < 0) := by omega
      have h6 : n + 61 > 60 := by omega
      simp only [nodesL, measL, meas, e1, if_neg h0, if_pos h6]
      rw [nodesL_neg _ _ _ (by omega)]
      omega
  | succ f ih =>
    have h1 : ∀ (t : Term) (c : Int), 0 ≤ c → c < 60 → (nodes t (60 - c) ((f + 1 : Nat) : Int) < 0 ↔ c + meas (f + 1) t > 60) ∧ (0 ≤ nodes t (60 - c) ((f + 1 : Nat) : Int) → nodes t (60 - c) ((f + 1 : Nat) : Int) = 60 - c - meas (f + 1) t) := by
      intro t c hc h60
      rw [nodes_eq, if_neg (by omega)]
      have := ih.2 t.args c 1 hc (by omega) (by omega)
      have e : ((f + 1 : Nat) : Int) - 1 = (f : Nat) := by omega
      rw [e]
      simp only [meas]
      exact this
    refine ⟨h1, fun l => ?_⟩
    induction l with
    | nil =>
      intro c n hc hn h
      show (60 - c - n < 0 ↔ c + n > 60) ∧ (0 ≤ 60 - c - n → 60 - c - n = 60 - c - n)
      exact ⟨by omega, fun _ => rfl⟩
    | cons a l ihl =>
      intro c n hc hn h
      simp only [nodesL, measL]
      rw [if_neg (by omega)]
      have hm := (meas_bd (f + 1) a).1
      by_cases hb : c + n = 60
      · have e0 : 60 - c - n = 0 := by omega
        have hn : nodes a (60 - c - n) ((f + 1 : Nat) : Int) < 0 := by
          have := (nodes_bd a (60 - c - n) ((f + 1 : Nat) : Int) (by omega))
          rw [nodes_eq, if_neg (by omega), nodesL_neg _ _ _ (by omega)]; omega
        rw [nodesL_neg _ _ _ hn]
        split
        · have := (nodes_bd a (60 - c - n) ((f + 1 : Nat) : Int) (by omega)).1; omega
        · have := measL_ge (m := meas (f + 1)) (fun a => (meas_bd (f + 1) a).1) l (n + meas (f + 1) a)
          have := (nodes_bd a (60 - c - n) ((f + 1 : Nat) : Int) (by omega)).1
          omega
      · obtain ⟨g1, g2⟩ := h1 a (c + n) (by omega) (by omega)
        have e1 : 60 - (c + n) = 60 - c - n := by omega
        rw [e1] at g1 g2
        by_cases hneg : nodes a (60 - c - n) ((f + 1 : Nat) : Int) < 0
        · rw [nodesL_neg _ _ _ hneg]
          have := g1.1 hneg
          split
          · omega
          · have := measL_ge (m := meas (f + 1)) (fun a => (meas_bd (f + 1) a).1) l (n + meas (f + 1) a)
            omega
        · have e2 := g2 (by omega)
          rw [e2]
          have hnb : ¬ (c + n + meas (f + 1) a > 60) := fun h => hneg (g1.2 h)
          rw [if_neg (by omega)]
          have := ihl c (n + meas (f + 1) a) hc (by omega) (by omega)
          have e3 : 60 - c - (n + meas (f + 1) a) = 60 - (c + n) - meas (f + 1) a := by omega
          rw [e3] at this
          have e4 : 60 - c - n - meas (f + 1) a = 60 - (c + n) - meas (f + 1) a := by omega
          rw [e4]; exact this
theorem meas_check (t : Term) : meas 8 t > 60 ↔ nodes t 60 8 < 0 := by
  have := ((meas_nodes 8).1 t 0 (by omega) (by omega)).1
  simp only [Int.sub_zero, Int.zero_add] at this
  exact this.symm
theorem nodesL_len : ∀ (l : List Term) (k lv : Int), 0 ≤ nodesL l k lv → (l.length : Int) ≤ k
  | [], k, lv, h => by simpa [nodesL] using h
  | t :: l, k, lv, h => by
    simp only [nodesL] at h
    split at h
    · omega
    · have h1 := nodesL_len l _ lv h
      have h2 : nodes t k lv ≤ k - 1 := by
        rw [nodes_eq]
        split
        · omega
        · have := (nodesL_bd t.args (k - 1) (lv - 1) (by omega)).2; omega
      simp only [List.length_cons]
      omega
theorem nodesL_mem : ∀ (l : List Term) (k lv : Int), 0 ≤ nodesL l k lv → ∀ a ∈ l, ∃ k', k' ≤ k ∧ 0 ≤ nodes a k' lv
  | [], _, _, _, a, h => by simp at h
  | t :: l, k, lv, h, a, ha => by
    simp only [nodesL] at h
    split at h
    · omega
    · rcases List.mem_cons.1 ha with rfl | ha
      · refine ⟨k, Int.le_refl _, ?_⟩
        by_cases hn : nodes a k lv < 0
        · rw [nodesL_neg _ _ _ hn] at h; omega
        · omega
      · obtain ⟨k', h1, h2⟩ := nodesL_mem l _ lv h a ha
        have := (nodes_bd t k lv (by omega)).2
        exact ⟨k', by omega, h2⟩
theorem narrow_of : ∀ (f : Nat) (t : Term) (k : Int), k ≤ 1000 → 0 ≤ nodes t k f → Narrow f t
  | 0, t, k, _, h => by rw [nodes_eq] at h; simp at h
  | f + 1, t, k, hk, h => by
    rw [nodes_eq, if_neg (by omega)] at h
    have e : ((f + 1 : Nat) : Int) - 1 = (f : Nat) := by omega
    rw [e] at h
    have := nodesL_len _ _ _ h
    refine ⟨by omega, fun a ha => ?_⟩
    obtain ⟨k', h1, h2⟩ := nodesL_mem _ _ _ h a ha
    exact narrow_of f a k' (by omega) h2
mutual
def used : Term → Int → Bool
  | .mk o n a, v => if o = 2 then decide (n = v) else usedL a v
def usedL : List Term → Int → Bool
  | [], _ => false
  | t :: l, v => if used t v = true then true else usedL l v
end
theorem used_eq (t : Term) (v : Int) : used t v = if t.op = 2 then decide (t.n = v) else usedL t.args v := by cases t; simp only [used, Term.op, Term.n, Term.args]; rfl
mutual
def coll : Term → List Int → List Int
  | .mk o n a, acc => collL a (if o = 2 then acc ++ [n] else acc)
def collL : List Term → List Int → List Int
  | [], acc => acc
  | t :: l, acc => collL l (coll t acc)
end
theorem coll_eq (t : Term) (acc : List Int) : coll t acc = collL t.args (if t.op = 2 then acc ++ [t.n] else acc) := by cases t; simp only [coll, Term.op, Term.n, Term.args]; rfl
theorem collL_drop {l : List Term} {i : Nat} (h : i < l.length) (acc : List Int) : collL (l.drop i) acc = collL (l.drop (i + 1)) (coll l[i] acc) := by
  rw [List.drop_eq_getElem_cons h, collL]
def upto (n : Nat) : List Int := (List.range n).map fun (i : Nat) => (i : Int)
def varsT (t : Term) : List Int := if (checkT t).2 ≠ 0 then [] else (upto 20).filter (used t)
def valueC (v : Int) (cells : List Cell) : Cell :=
  if v < 0 ∨ v ≥ cells.length then ⟨false, 0⟩
  else if (cells.getD v.toNat ⟨false, 0⟩).known = false then ⟨false, 0⟩
  else if (varType v).getD 0 = 0 then ⟨true, cut (cells.getD v.toNat ⟨false, 0⟩).n⟩
  else if (cells.getD v.toNat ⟨false, 0⟩).n ≠ 0 then ⟨true, 1⟩ else ⟨true, 0⟩
def yes (b : Bool) : Cell := if b then ⟨true, 1⟩ else ⟨true, 0⟩
def logic (a b : Cell) (alone : Int) : Cell :=
  if a.known = true ∧ a.n = alone ∨ b.known = true ∧ b.n = alone then ⟨true, alone⟩
  else if a.known = true ∧ b.known = true then ⟨true, 1 - alone⟩ else ⟨false, 0⟩
def times (a b : Int) : Int := cut (a * b)
def number (op a b : Int) : Cell :=
  if op = 7 then yes (decide (a < b)) else if op = 8 then yes (decide (a = b)) else if op = 9 then ⟨true, cut (a + b)⟩ else if op = 10 then ⟨true, cut (a - b)⟩
  else if op = 11 then ⟨true, times a b⟩ else if op = 12 then ⟨true, min a b⟩ else ⟨true, max a b⟩
def evalN (op : Int) (l : List Cell) : Cell :=
  if op = 3 then (if (l.getD 0 ⟨false, 0⟩).known = false then ⟨false, 0⟩ else ⟨true, 1 - (l.getD 0 ⟨false, 0⟩).n⟩)
  else if op = 4 then logic (l.getD 0 ⟨false, 0⟩) (l.getD 1 ⟨false, 0⟩) 0
  else if op = 5 then logic (l.getD 0 ⟨false, 0⟩) (l.getD 1 ⟨false, 0⟩) 1
  else if op = 6 then
    (if (l.getD 0 ⟨false, 0⟩).known = true then l.getD (2 - (l.getD 0 ⟨false, 0⟩).n).toNat ⟨false, 0⟩
     else if (l.getD 1 ⟨false, 0⟩).known = true ∧ (l.getD 2 ⟨false, 0⟩).known = true ∧ (l.getD 1 ⟨false, 0⟩).n = (l.getD 2 ⟨false, 0⟩).n then l.getD 1 ⟨false, 0⟩ else ⟨false, 0⟩)
  else if (l.getD 0 ⟨false, 0⟩).known = false ∨ (l.getD 1 ⟨false, 0⟩).known = false then ⟨false, 0⟩
  else number op (l.getD 0 ⟨false, 0⟩).n (l.getD 1 ⟨false, 0⟩).n
mutual
def eval : Term → List Cell → Cell
  | .mk o n a, cells => if o = 0 ∨ o = 1 then ⟨true, n⟩ else if o = 2 then valueC n cells else evalN o (evalL a cells)
def evalL : List Term → List Cell → List Cell
  | [], _ => []
  | t :: l, cells => eval t cells :: evalL l cells
end
theorem evalL_map (cells : List Cell) : ∀ l, evalL l cells = l.map fun t => eval t cells
  | [] => rfl
  | t :: l => by simp [evalL, evalL_map cells l]
theorem eval_eq (t : Term) (cells : List Cell) : eval t cells = if t.op = 0 ∨ t.op = 1 then ⟨true, t.n⟩ else if t.op = 2 then valueC t.n cells else evalN t.op (t.args.map fun a => eval a cells) := by
  cases t; simp only [eval, evalL_map, Term.op, Term.n, Term.args]; rfl
def evalT (t : Term) (cells : List Cell) : Cell := if (checkT t).2 ≠ 0 then ⟨false, 0⟩ else eval t cells
end Go.Abs


namespace Go.Abs
theorem chkA_ok : ∀ (l : List Term) (ty : List Int), (chkA l ty).1 = 0 → (∀ a ∈ l, (chk a).2 = 0) ∧ (chkA l ty).2 = ty ++ l.map fun a => (chk a).1
  | [], ty, _ => by simp [chkA]
  | t :: l, ty, h => by
    simp only [chkA] at h ⊢
    split at h
    · rename_i hne; exact absurd h hne
    · rename_i he
      rw [if_neg he]
      obtain ⟨h1, h2⟩ := chkA_ok l _ h
      refine ⟨?_, by rw [h2]; simp⟩
      intro a ha
      rcases List.mem_cons.1 ha with rfl | ha
      · simpa using he
      · exact h1 a ha
theorem chk_ok {t : Term} (h : (chk t).2 = 0) : (∀ a ∈ t.args, (chk a).2 = 0) ∧ chk t = node t (t.args.map fun a => (chk a).1) := by
  rw [chk_eq] at h
  by_cases h0 : (chkA t.args []).1 = 0
  · obtain ⟨h1, h2⟩ := chkA_ok _ _ h0
    refine ⟨h1, ?_⟩
    rw [chk_eq, if_neg (by simp [h0]), h2]; simp
  · rw [if_pos h0] at h; exact absurd h h0
theorem leaf_ty (t : Term) : (leaf t).1 = 0 ∨ (leaf t).1 = 1 := by
  unfold leaf
  split
  · simp
  split
  · split <;> simp
  split
  · split <;> simp
  · cases h : varType t.n with
    | none => simp
    | some k => unfold varType at h; split at h <;> (try split at h) <;> simp_all
theorem shape_len {op : Int} (h : 3 ≤ op) : ((shapeArgs op).length : Int) = if op = 3 then 1 else if op = 6 then 3 else 2 := by
  unfold shapeArgs
  (repeat' split) <;> simp_all <;> omega
theorem node_ty {t : Term} {tys : List Int} (h : ∀ x ∈ tys, x = 0 ∨ x = 1) : (node t tys).1 = 0 ∨ (node t tys).1 = 1 := by
  unfold node
  split
  · simp
  split
  · exact leaf_ty t
  split
  · simp
  rename_i h1 h2 h3
  have hl : tys.length = (shapeArgs t.op).length := by
    by_cases hh : tys.length = (shapeArgs t.op).length
    · exact hh
    · exact absurd (Or.inl hh) h3
  split
  · simp
  · rename_i c hc
    split
    · rename_i hr
      have h6 : t.op = 6 := by
        unfold shapeRes at hr
        by_cases c6 : t.op = 6
        · exact c6
        · exfalso
          rw [if_neg c6] at hr
          (repeat' split at hr) <;> simp at hr
      rw [h6] at hl hc
      have h3 : tys.length = 3 := by rw [hl]; rfl
      match tys, h3 with
      | [a, b, d], _ =>
        have hb := h b (by simp)
        have ha := h a (by simp)
        have hd := h d (by simp)
        have e : shapeArgs 6 = [1, -1, -1] := rfl
        rw [e] at hc
        show c = 0 ∨ c = 1
        rcases ha with rfl | rfl <;> rcases hb with rfl | rfl <;> rcases hd with rfl | rfl <;> simp [fit] at hc <;> omega
    · rename_i hr
      show shapeRes t.op = 0 ∨ shapeRes t.op = 1
      unfold shapeRes at hr ⊢
      (repeat' split at hr) <;> (repeat' split) <;> first | omega | (exfalso; exact hr rfl)
theorem chk_ty : ∀ t : Term, (chk t).1 = 0 ∨ (chk t).1 = 1 := by
  refine Term.ind fun o n a ih => ?_
  rw [chk_eq]
  split
  · simp
  · rename_i h0
    have h0 : (chkA a []).1 = 0 := by simpa [Term.args] using h0
    obtain ⟨h1, h2⟩ := chkA_ok a [] h0
    show (node _ (chkA a []).2).1 = 0 ∨ (node _ (chkA a []).2).1 = 1
    rw [h2]
    refine node_ty ?_
    intro x hx
    simp at hx
    obtain ⟨b, hb, rfl⟩ := hx
    exact ih b hb
end Go.Abs


namespace Go.Abs
def qtype (q : Int) : Int := if q = 6 ∨ q = 7 ∨ q = 10 ∨ q = 12 ∨ q = 13 ∨ q = 14 ∨ q = 15 ∨ q = 16 ∨ q = 20 ∨ q = 21 then 0 else 1
def typeQ (q : Int) : V := if q < 0 ∨ q ≥ 22 then .tup [.int .i64 0, .bool false] else .tup [.int .i64 (qtype q), .bool true]
def chs : List Choice → Int → Bool
  | [], _ => true
  | c :: l, last => if ¬ (last < c.ask ∧ c.ask < 22) ∨ c.by_ < 0 ∨ c.by_ ≥ 5 then false else chs l c.ask
def rls : List Rule → Int → Bool
  | [], _ => true
  | c :: l, last => if ¬ (last < c.ask ∧ c.ask < 22) then false else rls l c.ask
def tys : List Rule → Int
  | [] => 0
  | r :: l => if (checkT r.term).2 ≠ 0 then (checkT r.term).2 else if (checkT r.term).1 ≠ qtype r.ask then 11 else tys l
def checkO (o : Order) : Int := if chs o.choices (-1) = false then 1 else if rls o.rules (-1) = false then 1 else tys o.rules
def ordersO : List Order → Int → Int × Int
  | [], _ => (-1, 0)
  | o :: l, i => if checkO o ≠ 0 then (i, checkO o) else ordersO l (i + 1)
def fewR : List Rule → Bool
  | [] => true
  | r :: l => if few r.term = false then false else fewR l
theorem fewR_drop {l : List Rule} {i : Nat} (h : i < l.length) : fewR (l.drop i) = if few l[i].term = false then false else fewR (l.drop (i + 1)) := by
  rw [List.drop_eq_getElem_cons h, fewR]
def rix : List Rule → Int → Int → Int
  | [], _, _ => -1
  | r :: l, q, i => if r.ask = q then i else rix l q (i + 1)
theorem rix_drop {l : List Rule} {i : Nat} (h : i < l.length) (q n : Int) : rix (l.drop i) q n = if l[i].ask = q then n else rix (l.drop (i + 1)) q (n + 1) := by
  rw [List.drop_eq_getElem_cons h, rix]
def hasI (l : List Int) (v : Int) : Bool := l.any fun x => decide (x = v)
end Go.Abs


set_option maxRecDepth 100000
set_option maxHeartbeats 4000000
namespace Go.Abs
open Go.Proofs
def k1 (i q : Nat) : Int := if q < i then 1 else 0
def k2 (j q : Nat) : Int := if q ∈ [6, 7, 10, 12, 13, 14, 15, 16, 20, 21].take j then 0 else 1
end Go.Abs


set_option maxRecDepth 100000
namespace Go.Abs
open Go.Proofs
theorem s93 (a : Int) : Spec Tryd.prog 65 [.int .i64 a] (fun r => r = .int .i64 (cut a)) := by
  refine Spec.of_awl hf65 okf65 (by simp) ?_
  simp only [Qs, q_exL_eq_34, q_vInts_eq_1, q_vInts_eq_2, q_foldV_eq_1, q_vMinmax_eq_1, q_minmaxI_eq_1, q_List_foldl_cons, q_List_foldl_nil, if_true, if_false, Int.reduceNeg, List.nodup_nil, Nat.reduceBEq, uf65, uf65r1, uf65b2, uf65r3, uf65b4]
  congr 3
  unfold cut
  split <;> split <;> omega
theorem s33 (a : Int) : Spec Tryd.prog 63 [.int .i64 a] (fun r => r = varTypeV a) := by
  refine Spec.of_awl hf63 okf63 (by simp) ?_
  simp only [Qs, q_putDL_eq_1, q_AE_inBlockL_eq_1, q_cutInt_eq_10, q_vPick_eq_2, q_V_nrm_eq_5, if_true, if_false, List.append_nil, List.nodup_nil, Nat.reduceBEq, q_guardP_eq_2, condB_decide, uf63, uf63r1, uf63b2, uf63r3, uf63b4, uf63r5, uf63b6, uf63b7, uf63r8, uf63b9, uf63b10, uf63r11, uf63b12, uf63b13, uf63b14, uf63r15, uf63b16]
  repeat' (first | with_reducible refine And.intro ?_ ?_ | with_reducible intro _)
  all_goals (simp only [varTypeV, varType]; (repeat' split) <;> simp_all <;> omega)
theorem s71 (t : Term) : Spec Tryd.prog 61 [.agg (encT t)] (fun r => r = pairV (leaf t)) := by
  refine Spec.of_awl hf61 okf61 (by simp) ?_
  simp only [encT_eq, lstC, map_len, Qs, q_wpLQs_eq_2, q_putDL_eq_1, q_AOp_dst_eq_8, q_AOp_dst_eq_20, q_exL_eq_5, q_exLQ_eq_9, q_exLQ_eq_22, q_exLQ_eq_29, q_awl_eq_3, q_AE_inBlockL_eq_1, q_cutInt_eq_10, q_vLen_eq_1, q_vPick_eq_2, q_boxK_eq_1, q_V_nrm_eq_5, q_C_norm_eq_1, if_true, if_false, List.append_nil, List.nodup_nil, Nat.reduceAdd, Nat.reduceLeDiff, Nat.reduceBEq, q_guardP_eq_2, condB_decide, condB_beq, List.length_map, uf61, uf61r9, uf61b10, uf61r16, uf61b17, uf61b18, uf61r19, uf61b20, uf61r21, uf61b22, uf61b23, uf61r24, uf61b25, uf61b26, uf61b27, uf61r28, uf61b29, uf61b30, uf61r31, uf61b32, uf61b33, uf61r34, uf61b35, uf61b36, uf61r37, uf61b38, uf61b39, uf61r40, uf61b41, uf61b42, uf61r43, uf61b44]
  repeat' (first | with_reducible refine And.intro ?_ ?_ | with_reducible intro _)
  all_goals first
    | (refine callQ_scalar (s93 t.n) rfl rfl rfl ?_
       simp only [Qs, q_wpLQs_eq_1, q_wpLQs_eq_2, q_exLQ_eq_9, q_exLQ_eq_12, q_exLQ_eq_22, q_cutInt_eq_7, q_C_norm_eq_1, q_V_fz_eq_1, q_K_fz_eq_2, if_true, if_false, List.append_nil, List.nodup_nil, Nat.reduceAdd, Nat.reduceLeDiff, Nat.reduceBEq, condB_bne, uf61r11, uf61b12, uf61r13, uf61b14, uf61b15]
       repeat' (first | with_reducible refine And.intro ?_ ?_ | with_reducible intro _)
       all_goals simp_all [leaf, pairV]
       done)
    | (refine call_scalar (s33 t.n) rfl rfl rfl ?_
       simp only [varTypeV, condB_iff, Qs, q_exL_eq_15, q_exL_eq_27, q_vUn_eq_1, q_unV_eq_2, q_mapC_eq_1, q_V_nrm_eq_4, q_V_nrmL_eq_1, q_V_nrmL_eq_2, q_C_norm_eq_1, Bool.not_eq_true', Bool.not_eq_false', List.append_nil, List.nodup_nil, Nat.reduceBEq, uf61r1, uf61b2, uf61r3, uf61b4, uf61b5, uf61r6, uf61b7, uf61b8]
       cases hv : varType t.n <;> simp_all [leaf, pairV]
       done)
    | (simp_all [leaf, pairV]; done)
    | (simp_all [leaf, pairV]; rw [if_neg (by omega)]; simp; done)
    | (simp_all [leaf, pairV]; rw [if_pos (by omega)]; simp; done)
end Go.Abs


set_option maxRecDepth 100000
namespace Go.Abs
open Go.Proofs
theorem s58 : ∀ (lv : Nat) (t : Term) (k : Int), 0 ≤ k → k ≤ 1000000 → lv ≤ 1000000 → Spec Tryd.prog 36 [.agg (encT t), .int .i64 k, .int .i64 lv] (fun r => r = .int .i64 (nodes t k lv)) := by
  intro lv
  induction lv with
  | zero =>
    intro t k h1 h2 h3
    refine Spec.of_awl hf36 okf36 (by simp) ?_
    have hw : IntKind.i64.wrap (k - 1) = k - 1 := wrap_in (by omega) (by omega)
    have hl : ((0 : Nat) : Int) < 1 := by omega
    simp only [encT_eq, lstC, map_len, hw, hl, not_true_eq_false, Qs, q_exL_eq_5, q_cutInt_eq_2, q_boxK_eq_1, q_C_norm_eq_1, if_true, Int.reduceNeg, List.nodup_nil, Nat.reduceAdd, Nat.reduceBEq, Int.reduceLT, Int.cast_ofNat_Int, uf36, uf36r16, uf36b17, uf36b18, uf36r19, uf36b20, uf36b21, uf36r22, uf36b23, uf36r24, uf36b25]
    rw [nodes_eq]
    simp
  | succ lv ih =>
    intro t k h1 h2 h3
    refine Spec.of_len hf36 fun hlen => ?_
    replace hlen : t.args.length ≤ 9223372036854775807 := by
      have := hlen (.agg (encT t)) (by simp) (lstC 3 (t.args.map encT)) (by rw [encT_eq]; simp [V.topC]) _ _ _ rfl
      simpa using this
    refine Spec.of_awl hf36 okf36 (by simp) ?_
    have hw : IntKind.i64.wrap (k - 1) = k - 1 := wrap_in (by omega) (by omega)
    have hl : ¬ ((lv + 1 : Nat) : Int) < 1 := by omega
    simp only [encT_eq, lstC, map_len, hw, hl, not_true_eq_false, not_false_eq_true, Qs, q_exL_eq_5, q_cutInt_eq_2, q_boxK_eq_1, if_true, Nat.reduceAdd, Nat.reduceBEq, uf36, uf36b12, uf36r13, uf36b14, uf36b15, uf36b18, uf36r19, uf36b20, uf36b21, uf36r22, uf36b23, uf36r24, uf36b25]
    rw [uf36l11]
    refine awl_loop (fun x : Nat × Int => [(1, .int .i64 x.2), (2, .int .i64 ((lv + 1 : Nat) : Int)), (3, .k (.ptr 3 0)), (7, .int .i64 x.1)]) (fun _ => [(3, .var 50 ((encT t).map .c))])
      (fun x => x.1 ≤ t.args.length ∧ -1 ≤ x.2 ∧ x.2 ≤ 1000000 ∧ nodesL (t.args.drop x.1) x.2 lv = nodesL t.args (k - 1) lv) (fun x => t.args.length - x.1) (0, k - 1) rfl (by rw [encT_eq]; rfl) ⟨Nat.zero_le _, by simp only []; omega, by simp only []; omega, rfl⟩ ?_
    rintro ⟨i, n⟩ ⟨hi, hn1, hn2, hj⟩
    simp only [] at hi hn1 hn2 hj
    have hfin : nodes t k ((lv + 1 : Nat) : Int) = nodesL t.args (k - 1) lv := by
      rw [nodes_eq, if_neg hl]
      congr 1; omega
    by_cases hlt : i < t.args.length
    · have c1 : (i : Int) < t.args.length := by omega
      have c3 : IntKind.i64.wrap (((lv + 1 : Nat) : Int) - 1) = (lv : Int) := by rw [wrap_in (by omega) (by omega)]; omega
      have c4 : IntKind.i64.wrap ((i : Int) + 1) = (i : Int) + 1 := wrap_in (by omega) (by omega)
      simp only [encT_eq t, lstC, map_len, map_isEmpty, sz_of hlt, map_at hlt, encT_len, c1, c3, not_true_eq_false, Qs, q_awl_eq_9, q_AE_thenL_eq_2, q_AE_inBlockL_eq_1, q_AE_inBlockL_eq_2, q_cutInt_eq_2, q_cutInt_eq_11, q_vLen_eq_1, q_partV_eq_1, q_vIaddr_eq_1, q_C_norm_eq_1, if_true, if_false, Int.reduceNeg, List.nodup_nil, Nat.reduceAdd, Nat.reduceBEq, Int.toNat_natCast, Int.natCast_nonneg, condB_decide, List.length_map, uf36r1, uf36b2, uf36r3, uf36r4, uf36b5, uf36b6, uf36b7, uf36r8, uf36b9, uf36b10]
      refine ⟨fun h5 => ?_, fun h5 => ?_⟩
      · have hb := nodes_bd t.args[i] n lv (by omega)
        refine call_scalar (ih t.args[i] n (by omega) (by omega) (by omega)) rfl (by simp [lendL, V.norm, C.norm, encT_norm]) rfl ?_
        simp only [c4, Qs, q_cutInt_eq_1, if_true, Int.reduceNeg, Nat.reduceBEq]
        refine Next.intro (i + 1, nodes t.args[i] n lv) rfl rfl ⟨by simp only []; omega, by simp only []; omega, by simp only []; omega, ?_⟩ (by simp only []; omega)
        rw [← hj, nodesL_drop hlt, if_neg (by omega)]
      · rw [hfin, ← hj, nodesL_neg _ _ _ (by omega)]
    · have c1 : ¬ (i : Int) < t.args.length := by omega
      simp only [encT_eq, lstC, map_len, c1, not_true_eq_false, not_false_eq_true, Qs, q_putDL_eq_1, q_awl_eq_9, q_AE_thenL_eq_2, q_AE_inBlockL_eq_2, q_vLen_eq_1, q_vPick_eq_3, q_V_nrm_eq_5, q_C_norm_eq_1, if_true, if_false, Int.reduceNeg, List.nodup_nil, Nat.reduceAdd, Nat.reduceBEq, List.length_map, uf36r1, uf36b2, uf36b7, uf36r8, uf36b9, uf36b10]
      rw [hfin, ← hj, List.drop_eq_nil_of_le (by omega), nodesL]
end Go.Abs


set_option maxRecDepth 100000
namespace Go.Abs
open Go.Proofs
theorem s59 : ∀ (f : Nat) (t : Term), f ≤ 8 → Spec Tryd.prog 50 [.agg (encT t), .int .i64 (9 - (f : Int))] (fun r => r = .int .i64 (meas f t)) := by
  intro f
  induction f with
  | zero =>
    intro t hf
    refine Spec.of_awl hf50 okf50 (by simp) ?_
    have c1 : (9 : Int) - ((0 : Nat) : Int) > 8 := by omega
    simp only [encT_eq, lstC, map_len, c1, not_true_eq_false, Qs, q_exL_eq_5, q_cutInt_eq_10, q_boxK_eq_1, q_C_norm_eq_1, if_true, List.nodup_nil, Nat.reduceAdd, Nat.reduceBEq, Int.reduceGT, Int.reduceSub, Int.cast_ofNat_Int, uf50, uf50r24, uf50b25, uf50b26, uf50r27, uf50b28, uf50b29, uf50r30, uf50b31]
    rfl
  | succ f ih =>
    intro t hf
    refine Spec.of_len hf50 fun hlen => ?_
    replace hlen : t.args.length ≤ 9223372036854775807 := by
      have := hlen (.agg (encT t)) (by simp) (lstC 3 (t.args.map encT)) (by rw [encT_eq]; simp [V.topC]) _ _ _ rfl
      simpa using this
    refine Spec.of_awl hf50 okf50 (by simp) ?_
    have hl : ¬ ((9 : Int) - ((f + 1 : Nat) : Int)) > 8 := by omega
    simp only [encT_eq, lstC, map_len, hl, not_true_eq_false, not_false_eq_true, Qs, q_exL_eq_5, q_cutInt_eq_10, q_vLen_eq_1, q_boxK_eq_1, if_true, if_false, Nat.reduceAdd, Nat.reduceBEq, List.length_map, uf50, uf50b18, uf50r19, uf50b20, uf50b21, uf50r22, uf50b23, uf50b26, uf50r27, uf50b28, uf50b29, uf50r30, uf50b31]
    rw [uf50l17]
    refine awl_loop (fun x : Nat × Int => [(1, .int .i64 (9 - ((f + 1 : Nat) : Int))), (5, .int .i64 x.2), (11, .k (.c (.list (if (List.map encT t.args).isEmpty = true then 0 else 3) none (List.map encT t.args)))), (12, .int .i64 (t.args.length : Int)), (13, .int .i64 x.1)]) (fun _ => [])
      (fun x => x.1 ≤ t.args.length ∧ 1 ≤ x.2 ∧ x.2 ≤ 60 ∧ measL (meas f) (t.args.drop x.1) x.2 = measL (meas f) t.args 1) (fun x => t.args.length - x.1) (0, 1) rfl rfl ⟨Nat.zero_le _, by simp only []; omega, by simp only []; omega, rfl⟩ ?_
    rintro ⟨i, n⟩ ⟨hi, hn1, hn2, hj⟩
    simp only [] at hi hn1 hn2 hj
    by_cases hlt : i < t.args.length
    · have c1 : (i : Int) < t.args.length := by omega
      have c3 : IntKind.i64.wrap (9 - ((f + 1 : Nat) : Int) + 1) = 9 - (f : Int) := by rw [wrap_in (by omega) (by omega)]; omega
      have c4 : IntKind.i64.wrap ((i : Int) + 1) = (i : Int) + 1 := wrap_in (by omega) (by omega)
      simp only [encT_eq, lstC, map_len, map_isEmpty, sz_of hlt, map_at hlt, c1, c3, not_true_eq_false, Qs, q_cutInt_eq_1, q_partV_eq_1, q_vIaddr_eq_1, q_K_noRef_eq_5, if_true, List.append_nil, Nat.reduceAdd, Nat.reduceBEq, Int.toNat_natCast, Int.natCast_nonneg, List.length_map, uf50r3, uf50r7, uf50b8, uf50r9, uf50b10, uf50b11, uf50b12, uf50b13, uf50b14, uf50r15, uf50b16]
      have hb := meas_bd f t.args[i]
      have c5 : IntKind.i64.wrap (n + meas f t.args[i]) = n + meas f t.args[i] := wrap_in (by omega) (by omega)
      refine call_scalar (ih t.args[i] (by omega)) rfl (by simp [lendL, V.norm, C.norm, ← norm_T, map_isEmpty]) rfl ?_
      simp only [c4, c5, Qs, q_awl_eq_9, q_AE_thenL_eq_2, q_AE_inBlockL_eq_1, q_AE_inBlockL_eq_2, q_cutInt_eq_1, q_cutInt_eq_10, q_K_nrm_eq_2, q_C_norm_eq_1, q_C_normRows_eq_1, q_List_isEmpty_nil, if_true, if_false, List.nodup_nil, Nat.reduceBEq, Nat.zero_ne_one, condB_decide, uf50r1, uf50b2, uf50b4, uf50r5, uf50b6]
      refine ⟨fun h6 => ?_, fun h6 => ?_⟩
      · rw [meas, ← hj, measL_drop hlt, if_pos h6]
      · refine Next.intro (i + 1, n + meas f t.args[i]) rfl rfl ⟨by simp only []; omega, by simp only []; omega, by simp only []; omega, ?_⟩ (by simp only []; omega)
        rw [← hj, measL_drop hlt, if_neg h6]
    · have c1 : ¬ (i : Int) < t.args.length := by omega
      simp only [encT_eq, lstC, map_len, c1, not_true_eq_false, not_false_eq_true, Qs, q_awl_eq_9, q_AE_thenL_eq_2, q_AE_inBlockL_eq_2, q_C_norm_eq_1, if_true, List.nodup_nil, Nat.reduceBEq, uf50r1, uf50b2, uf50b13, uf50b14, uf50r15, uf50b16]
      rw [meas, ← hj, List.drop_eq_nil_of_le (by omega), measL]
end Go.Abs

