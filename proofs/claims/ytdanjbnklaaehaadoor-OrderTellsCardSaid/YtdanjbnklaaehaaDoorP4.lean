/- A part of the proof; the last text states what is proved. -/
import Derived.Test.YtdanjbnklaaehaaDoorP3
import Derived.Test.YtdanjbnklaaehaaDoorProg
set_option linter.unusedVariables false
set_option linter.unusedSimpArgs false
set_option maxRecDepth 100000
namespace Go.Abs
open Go.Proofs
def f8r1 : List AI := [⟨none, (.mov 2 (.v (.k (.c (.bool true)))))⟩]
theorem uf8r1 : type_of% @f8r1.eq_1 := id @f8r1.eq_1
def f8b2 : AQ := (.seq (.region f8r1) .ret)
theorem uf8b2 (P ts os Q) : awl P f8b2 Q ts os = awl P (.seq (.region f8r1) .ret) Q ts os := id rfl
def f8r3 : List AI := [⟨none, (.mov 19 (.t 3))⟩, ⟨none, (.bin 20 .add (.t 19) (.v (.k (.c (.int .i64 1)))))⟩, ⟨none, (.mov 3 (.t 20))⟩]
theorem uf8r3 : type_of% @f8r3.eq_1 := id @f8r3.eq_1
def f8r4 : List AI := [⟨none, (.mov 2 (.v (.k (.c (.bool false)))))⟩]
theorem uf8r4 : type_of% @f8r4.eq_1 := id @f8r4.eq_1
def f8b5 : AQ := (.seq (.region f8r4) .ret)
theorem uf8b5 (P ts os Q) : awl P f8b5 Q ts os = awl P (.seq (.region f8r4) .ret) Q ts os := id rfl
def f8b6 : AQ := (.cond (.t 28) f8b5 .skip)
theorem uf8b6 (P ts os Q) : awl P f8b6 Q ts os = awl P (.cond (.t 28) f8b5 .skip) Q ts os := id rfl
def f8r7 : List AI := [⟨none, (.faddr 21 3 (.t 1))⟩, ⟨none, (.load 22 1 false (.t 21))⟩, ⟨none, (.mov 23 (.t 3))⟩, ⟨none, (.iaddr 24 4 (.t 22) (.t 23))⟩, ⟨none, (.faddr 25 1 (.t 24))⟩, ⟨none, (.load 26 3 true (.t 25))⟩, ⟨none, (.call (some 27) 24 [(.t 26)])⟩, ⟨none, (.un 28 .not (.t 27))⟩]
theorem uf8r7 : type_of% @f8r7.eq_1 := id @f8r7.eq_1
def f8b8 : AQ := (.seq (.region f8r7) f8b6)
theorem uf8b8 (P ts os Q) : awl P f8b8 Q ts os = awl P (.seq (.region f8r7) f8b6) Q ts os := id rfl
def f8b9 : AQ := (.block 1 f8b8)
theorem uf8b9 (P ts os Q) : awl P f8b9 Q ts os = awl P (.block 1 f8b8) Q ts os := id rfl
def f8b10 : AQ := (.seq f8b9 (.region f8r3))
theorem uf8b10 (P ts os Q) : awl P f8b10 Q ts os = awl P (.seq f8b9 (.region f8r3)) Q ts os := id rfl
def f8b11 : AQ := (.cond (.t 18) .skip (.exit 0))
theorem uf8b11 (P ts os Q) : awl P f8b11 Q ts os = awl P (.cond (.t 18) .skip (.exit 0)) Q ts os := id rfl
def f8r12 : List AI := [⟨none, (.mov 14 (.t 3))⟩, ⟨none, (.faddr 15 3 (.t 1))⟩, ⟨none, (.load 16 1 false (.t 15))⟩, ⟨none, (.len 17 (.t 16))⟩, ⟨none, (.bin 18 .lss (.t 14) (.t 17))⟩]
theorem uf8r12 : type_of% @f8r12.eq_1 := id @f8r12.eq_1
def f8b13 : AQ := (.seq (.region f8r12) f8b11)
theorem uf8b13 (P ts os Q) : awl P f8b13 Q ts os = awl P (.seq (.region f8r12) f8b11) Q ts os := id rfl
def f8b14 : AQ := (.seq f8b13 f8b10)
theorem uf8b14 (P ts os Q) : awl P f8b14 Q ts os = awl P (.seq f8b13 f8b10) Q ts os := id rfl
def f8l15 : AQ := .loop [1, 3] [1] f8b14
theorem uf8l15 (P ts os Q) : awl P f8l15 Q ts os = awl P (.loop [1, 3] [1] f8b14) Q ts os := id rfl
def f8b16 : AQ := (.block 0 f8l15)
theorem uf8b16 (P ts os Q) : awl P f8b16 Q ts os = awl P (.block 0 f8l15) Q ts os := id rfl
def f8r17 : List AI := [⟨none, (.mov 3 (.v (.k (.c (.int .i64 0)))))⟩]
theorem uf8r17 : type_of% @f8r17.eq_1 := id @f8r17.eq_1
def f8b18 : AQ := (.seq (.region f8r17) f8b16)
theorem uf8b18 (P ts os Q) : awl P f8b18 Q ts os = awl P (.seq (.region f8r17) f8b16) Q ts os := id rfl
def f8b19 : AQ := (.seq f8b18 f8b2)
theorem uf8b19 (P ts os Q) : awl P f8b19 Q ts os = awl P (.seq f8b18 f8b2) Q ts os := id rfl
def f8r20 : List AI := [⟨none, (.mov 2 (.v (.k (.c (.bool false)))))⟩]
theorem uf8r20 : type_of% @f8r20.eq_1 := id @f8r20.eq_1
def f8b21 : AQ := (.seq (.region f8r20) .ret)
theorem uf8b21 (P ts os Q) : awl P f8b21 Q ts os = awl P (.seq (.region f8r20) .ret) Q ts os := id rfl
def f8b22 : AQ := (.cond (.t 13) f8b21 .skip)
theorem uf8b22 (P ts os Q) : awl P f8b22 Q ts os = awl P (.cond (.t 13) f8b21 .skip) Q ts os := id rfl
def f8r23 : List AI := [⟨none, (.faddr 4 3 (.t 1))⟩, ⟨none, (.load 5 1 false (.t 4))⟩, ⟨none, (.len 6 (.t 5))⟩, ⟨none, (.bin 7 .gtr (.t 6) (.v (.k (.c (.int .i64 60)))))⟩, ⟨none, (.mov 8 (.t 7))⟩, ⟨(some (8, false)), (.faddr 9 2 (.t 1))⟩, ⟨(some (8, false)), (.load 10 1 false (.t 9))⟩, ⟨(some (8, false)), (.len 11 (.t 10))⟩, ⟨(some (8, false)), (.bin 12 .gtr (.t 11) (.v (.k (.c (.int .i64 60)))))⟩, ⟨none, (.pick 13 (.t 8) (.v (.k (.c (.bool true)))) (.t 12))⟩]
theorem uf8r23 : type_of% @f8r23.eq_1 := id @f8r23.eq_1
def f8b24 : AQ := (.seq (.region f8r23) f8b22)
theorem uf8b24 (P ts os Q) : awl P f8b24 Q ts os = awl P (.seq (.region f8r23) f8b22) Q ts os := id rfl
def f8b25 : AQ := (.seq f8b24 f8b19)
theorem uf8b25 (P ts os Q) : awl P f8b25 Q ts os = awl P (.seq f8b24 f8b19) Q ts os := id rfl
def f8r26 : List AI := [⟨none, (.box 1 25 (.t 0))⟩, ⟨none, (.mov 2 (.v (.k (.c (.bool false)))))⟩]
theorem uf8r26 : type_of% @f8r26.eq_1 := id @f8r26.eq_1
def f8b27 : AQ := (.seq (.region f8r26) f8b25)
theorem uf8b27 (P ts os Q) : awl P f8b27 Q ts os = awl P (.seq (.region f8r26) f8b25) Q ts os := id rfl
def f8 : AQ := f8b27
theorem uf8 (P ts os Q) : awl P f8 Q ts os = awl P f8b27 Q ts os := id rfl
theorem hf8 : cFunc Tryd.prog 8 = some ⟨29, f8.erase, [(RX.t 2)]⟩ := by kernel_rfl
theorem okf8 : f8.ok = true := by kernel_rfl
def f9r1 : List AI := [⟨none, (.load 42 2 true (.t 10))⟩, ⟨none, (.store 2 (.t 6) (.t 42))⟩, ⟨none, (.mov 7 (.v (.k (.c (.int .i64 0)))))⟩]
theorem uf9r1 : type_of% @f9r1.eq_1 := id @f9r1.eq_1
def f9b2 : AQ := (.seq (.region f9r1) .ret)
theorem uf9b2 (P ts os Q) : awl P f9b2 Q ts os = awl P (.seq (.region f9r1) .ret) Q ts os := id rfl
def f9r3 : List AI := [⟨none, (.faddr 37 1 (.t 10))⟩, ⟨none, (.load 38 1 false (.t 37))⟩, ⟨none, (.minmax 39 true (.t 38) [(.v (.k (.c (.int .i64 0))))])⟩, ⟨none, (.minmax 40 false (.t 39) [(.v (.k (.c (.int .i64 20000))))])⟩, ⟨none, (.faddr 41 1 (.t 10))⟩, ⟨none, (.store 1 (.t 41) (.t 40))⟩]
theorem uf9r3 : type_of% @f9r3.eq_1 := id @f9r3.eq_1
def f9b4 : AQ := (.cond (.t 36) (.region f9r3) .skip)
theorem uf9b4 (P ts os Q) : awl P f9b4 Q ts os = awl P (.cond (.t 36) (.region f9r3) .skip) Q ts os := id rfl
def f9r5 : List AI := [⟨none, (.mov 31 (.t 11))⟩, ⟨none, (.bin 32 .eql (.t 31) (.v (.k (.c (.int .i64 0)))))⟩, ⟨none, (.mov 33 (.t 32))⟩, ⟨(some (33, true)), (.faddr 34 0 (.t 10))⟩, ⟨(some (33, true)), (.load 35 1 false (.t 34))⟩, ⟨none, (.pick 36 (.t 33) (.t 35) (.v (.k (.c (.bool false)))))⟩]
theorem uf9r5 : type_of% @f9r5.eq_1 := id @f9r5.eq_1
def f9b6 : AQ := (.seq (.region f9r5) f9b4)
theorem uf9b6 (P ts os Q) : awl P f9b6 Q ts os = awl P (.seq (.region f9r5) f9b4) Q ts os := id rfl
def f9r7 : List AI := [⟨none, (.mov 27 (.t 1))⟩, ⟨none, (.call (some 28) 13 [(.t 27)])⟩, ⟨none, (.mov 26 (.t 28))⟩, ⟨none, (.extr 29 (.t 26) 0)⟩, ⟨none, (.extr 30 (.t 26) 1)⟩, ⟨none, (.mov 11 (.t 29))⟩, ⟨none, (.mov 12 (.t 30))⟩]
theorem uf9r7 : type_of% @f9r7.eq_1 := id @f9r7.eq_1
def f9b8 : AQ := (.seq (.region f9r7) f9b6)
theorem uf9b8 (P ts os Q) : awl P f9b8 Q ts os = awl P (.seq (.region f9r7) f9b6) Q ts os := id rfl
def f9b9 : AQ := (.seq f9b8 f9b2)
theorem uf9b9 (P ts os Q) : awl P f9b9 Q ts os = awl P (.seq f9b8 f9b2) Q ts os := id rfl
def f9r10 : List AI := [⟨none, (.load 23 3 true (.t 8))⟩, ⟨none, (.mov 24 (.t 2))⟩, ⟨none, (.call (some 25) 26 [(.t 23), (.t 24)])⟩, ⟨none, (.alloc 10 30 [(.bool false), (.int .i64 0)])⟩, ⟨none, (.store 2 (.t 10) (.t 25))⟩]
theorem uf9r10 : type_of% @f9r10.eq_1 := id @f9r10.eq_1
def f9b11 : AQ := (.seq (.region f9r10) f9b9)
theorem uf9b11 (P ts os Q) : awl P f9b11 Q ts os = awl P (.seq (.region f9r10) f9b9) Q ts os := id rfl
def f9r12 : List AI := [⟨none, (.build 21 [(.bool false), (.int .i64 0)] [])⟩, ⟨none, (.mov 22 (.t 9))⟩, ⟨none, (.store 2 (.t 6) (.t 21))⟩, ⟨none, (.mov 7 (.t 22))⟩]
theorem uf9r12 : type_of% @f9r12.eq_1 := id @f9r12.eq_1
def f9b13 : AQ := (.seq (.region f9r12) .ret)
theorem uf9b13 (P ts os Q) : awl P f9b13 Q ts os = awl P (.seq (.region f9r12) .ret) Q ts os := id rfl
def f9b14 : AQ := (.cond (.t 20) f9b13 .skip)
theorem uf9b14 (P ts os Q) : awl P f9b14 Q ts os = awl P (.cond (.t 20) f9b13 .skip) Q ts os := id rfl
def f9r15 : List AI := [⟨none, (.mov 19 (.t 9))⟩, ⟨none, (.bin 20 .neq (.t 19) (.v (.k (.c (.int .i64 0)))))⟩]
theorem uf9r15 : type_of% @f9r15.eq_1 := id @f9r15.eq_1
def f9b16 : AQ := (.seq (.region f9r15) f9b14)
theorem uf9b16 (P ts os Q) : awl P f9b16 Q ts os = awl P (.seq (.region f9r15) f9b14) Q ts os := id rfl
def f9b17 : AQ := (.seq f9b16 f9b11)
theorem uf9b17 (P ts os Q) : awl P f9b17 Q ts os = awl P (.seq f9b16 f9b11) Q ts os := id rfl
def f9r18 : List AI := [⟨none, (.load 14 4 true (.t 3))⟩, ⟨none, (.mov 15 (.t 1))⟩, ⟨none, (.call (some 16) 25 [(.t 14), (.t 15)])⟩, ⟨none, (.mov 13 (.t 16))⟩, ⟨none, (.extr 17 (.t 13) 0)⟩, ⟨none, (.extr 18 (.t 13) 1)⟩, ⟨none, (.alloc 8 50 [(.int .i64 0), (.int .i64 0), (.list 0 (some true) [])])⟩, ⟨none, (.store 3 (.t 8) (.t 17))⟩, ⟨none, (.mov 9 (.t 18))⟩]
theorem uf9r18 : type_of% @f9r18.eq_1 := id @f9r18.eq_1
def f9b19 : AQ := (.seq (.region f9r18) f9b17)
theorem uf9b19 (P ts os Q) : awl P f9b19 Q ts os = awl P (.seq (.region f9r18) f9b17) Q ts os := id rfl
def f9r20 : List AI := [⟨none, (.box 3 25 (.t 0))⟩, ⟨none, (.alloc 6 30 [(.bool false), (.int .i64 0)])⟩, ⟨none, (.mov 7 (.v (.k (.c (.int .i64 0)))))⟩]
theorem uf9r20 : type_of% @f9r20.eq_1 := id @f9r20.eq_1
def f9b21 : AQ := (.seq (.region f9r20) f9b19)
theorem uf9b21 (P ts os Q) : awl P f9b21 Q ts os = awl P (.seq (.region f9r20) f9b19) Q ts os := id rfl
def f9 : AQ := f9b21
theorem uf9 (P ts os Q) : awl P f9 Q ts os = awl P f9b21 Q ts os := id rfl
theorem hf9 : cFunc Tryd.prog 9 = some ⟨43, f9.erase, [(RX.cell 6 2 true), (RX.t 7)]⟩ := by kernel_rfl
theorem okf9 : f9.ok = true := by kernel_rfl
def f10r1 : List AI := [⟨none, (.load 42 2 true (.t 9))⟩, ⟨none, (.store 2 (.t 6) (.t 42))⟩, ⟨none, (.mov 7 (.v (.k (.c (.int .i64 0)))))⟩]
theorem uf10r1 : type_of% @f10r1.eq_1 := id @f10r1.eq_1
def f10b2 : AQ := (.seq (.region f10r1) .ret)
theorem uf10b2 (P ts os Q) : awl P f10b2 Q ts os = awl P (.seq (.region f10r1) .ret) Q ts os := id rfl
def f10r3 : List AI := [⟨none, (.faddr 41 1 (.t 9))⟩, ⟨none, (.store 1 (.t 41) (.v (.k (.c (.int .i64 20000)))))⟩]
theorem uf10r3 : type_of% @f10r3.eq_1 := id @f10r3.eq_1
def f10b4 : AQ := (.cond (.t 40) (.region f10r3) .skip)
theorem uf10b4 (P ts os Q) : awl P f10b4 Q ts os = awl P (.cond (.t 40) (.region f10r3) .skip) Q ts os := id rfl
def f10r5 : List AI := [⟨none, (.faddr 38 1 (.t 9))⟩, ⟨none, (.load 39 1 false (.t 38))⟩, ⟨none, (.bin 40 .gtr (.t 39) (.v (.k (.c (.int .i64 20000)))))⟩]
theorem uf10r5 : type_of% @f10r5.eq_1 := id @f10r5.eq_1
def f10b6 : AQ := (.seq (.region f10r5) f10b4)
theorem uf10b6 (P ts os Q) : awl P f10b6 Q ts os = awl P (.seq (.region f10r5) f10b4) Q ts os := id rfl
def f10r7 : List AI := [⟨none, (.faddr 37 1 (.t 9))⟩, ⟨none, (.store 1 (.t 37) (.v (.k (.c (.int .i64 0)))))⟩]
theorem uf10r7 : type_of% @f10r7.eq_1 := id @f10r7.eq_1
def f10b8 : AQ := (.cond (.t 36) (.region f10r7) .skip)
theorem uf10b8 (P ts os Q) : awl P f10b8 Q ts os = awl P (.cond (.t 36) (.region f10r7) .skip) Q ts os := id rfl
def f10r9 : List AI := [⟨none, (.faddr 34 1 (.t 9))⟩, ⟨none, (.load 35 1 false (.t 34))⟩, ⟨none, (.bin 36 .lss (.t 35) (.v (.k (.c (.int .i64 0)))))⟩]
theorem uf10r9 : type_of% @f10r9.eq_1 := id @f10r9.eq_1
def f10b10 : AQ := (.seq (.region f10r9) f10b8)
theorem uf10b10 (P ts os Q) : awl P f10b10 Q ts os = awl P (.seq (.region f10r9) f10b8) Q ts os := id rfl
def f10b11 : AQ := (.seq f10b10 f10b6)
theorem uf10b11 (P ts os Q) : awl P f10b11 Q ts os = awl P (.seq f10b10 f10b6) Q ts os := id rfl
def f10b12 : AQ := (.cond (.t 33) f10b11 .skip)
theorem uf10b12 (P ts os Q) : awl P f10b12 Q ts os = awl P (.cond (.t 33) f10b11 .skip) Q ts os := id rfl
def f10r13 : List AI := [⟨none, (.faddr 27 0 (.t 9))⟩, ⟨none, (.load 28 1 false (.t 27))⟩, ⟨none, (.mov 29 (.t 28))⟩, ⟨(some (29, true)), (.mov 30 (.t 1))⟩, ⟨(some (29, true)), (.call (some 31) 29 [(.t 30)])⟩, ⟨(some (29, true)), (.un 32 .not (.t 31))⟩, ⟨none, (.pick 33 (.t 29) (.t 32) (.v (.k (.c (.bool false)))))⟩]
theorem uf10r13 : type_of% @f10r13.eq_1 := id @f10r13.eq_1
def f10b14 : AQ := (.seq (.region f10r13) f10b12)
theorem uf10b14 (P ts os Q) : awl P f10b14 Q ts os = awl P (.seq (.region f10r13) f10b12) Q ts os := id rfl
def f10b15 : AQ := (.seq f10b14 f10b2)
theorem uf10b15 (P ts os Q) : awl P f10b15 Q ts os = awl P (.seq f10b14 f10b2) Q ts os := id rfl
def f10r16o0 : AI := ⟨none, (.faddr 17 3 (.t 3))⟩
theorem uf10r16o0 : f10r16o0 = ⟨none, (.faddr 17 3 (.t 3))⟩ := id rfl
def f10r16o1 : AI := ⟨none, (.load 18 1 false (.t 17))⟩
theorem uf10r16o1 : f10r16o1 = ⟨none, (.load 18 1 false (.t 17))⟩ := id rfl
def f10r16o2 : AI := ⟨none, (.load 19 4 true (.t 3))⟩
theorem uf10r16o2 : f10r16o2 = ⟨none, (.load 19 4 true (.t 3))⟩ := id rfl
def f10r16o3 : AI := ⟨none, (.mov 20 (.t 1))⟩
theorem uf10r16o3 : f10r16o3 = ⟨none, (.mov 20 (.t 1))⟩ := id rfl
def f10r16o4 : AI := ⟨none, (.call (some 21) 21 [(.t 19), (.t 20)])⟩
theorem uf10r16o4 : f10r16o4 = ⟨none, (.call (some 21) 21 [(.t 19), (.t 20)])⟩ := id rfl
def f10r16o5 : AI := ⟨none, (.iaddr 22 4 (.t 18) (.t 21))⟩
theorem uf10r16o5 : f10r16o5 = ⟨none, (.iaddr 22 4 (.t 18) (.t 21))⟩ := id rfl
def f10r16o6 : AI := ⟨none, (.faddr 23 1 (.t 22))⟩
theorem uf10r16o6 : f10r16o6 = ⟨none, (.faddr 23 1 (.t 22))⟩ := id rfl
def f10r16o7 : AI := ⟨none, (.load 24 3 true (.t 23))⟩
theorem uf10r16o7 : f10r16o7 = ⟨none, (.load 24 3 true (.t 23))⟩ := id rfl
def f10r16o8 : AI := ⟨none, (.mov 25 (.t 2))⟩
theorem uf10r16o8 : f10r16o8 = ⟨none, (.mov 25 (.t 2))⟩ := id rfl
def f10r16o9 : AI := ⟨none, (.call (some 26) 28 [(.t 24), (.t 25)])⟩
theorem uf10r16o9 : f10r16o9 = ⟨none, (.call (some 26) 28 [(.t 24), (.t 25)])⟩ := id rfl
def f10r16o10 : AI := ⟨none, (.alloc 9 30 [(.bool false), (.int .i64 0)])⟩
theorem uf10r16o10 : f10r16o10 = ⟨none, (.alloc 9 30 [(.bool false), (.int .i64 0)])⟩ := id rfl
def f10r16o11 : AI := ⟨none, (.store 2 (.t 9) (.t 26))⟩
theorem uf10r16o11 : f10r16o11 = ⟨none, (.store 2 (.t 9) (.t 26))⟩ := id rfl
def f10r16 : List AI := [f10r16o0, f10r16o1, f10r16o2, f10r16o3, f10r16o4, f10r16o5, f10r16o6, f10r16o7, f10r16o8, f10r16o9, f10r16o10, f10r16o11]
theorem utf10r16 : treeOf f10r16 [[], [0], [], [], [2, 3], [1, 4], [5], [6], [], [7, 8, 4], [], [10, 9, 9, 0, 1, 2, 3, 4, 5, 6, 7, 8, 9, 10]] = (.one f10r16o10 (.one f10r16o0 (.one f10r16o1 (.one f10r16o2 (.one f10r16o3 (.one f10r16o4 (.one f10r16o5 (.one f10r16o6 (.one f10r16o7 (.one f10r16o8 (.one f10r16o9 (.one f10r16o11 .done)))))))))))) := by kernel_rfl
def f10b17 : AQ := (.seq (.tree f10r16 [[], [0], [], [], [2, 3], [1, 4], [5], [6], [], [7, 8, 4], [], [10, 9, 9, 0, 1, 2, 3, 4, 5, 6, 7, 8, 9, 10]]) (.keep [1, 6, 9] [6, 9, 26, 27000, 27001, 27002] f10b15))
theorem uf10b17 (P ts os Q) : awl P f10b17 Q ts os = awl P (.seq (.tree f10r16 [[], [0], [], [], [2, 3], [1, 4], [5], [6], [], [7, 8, 4], [], [10, 9, 9, 0, 1, 2, 3, 4, 5, 6, 7, 8, 9, 10]]) (.keep [1, 6, 9] [6, 9, 26, 27000, 27001, 27002] f10b15)) Q ts os := id rfl
def f10r18 : List AI := [⟨none, (.build 15 [(.bool false), (.int .i64 0)] [])⟩, ⟨none, (.mov 16 (.t 8))⟩, ⟨none, (.store 2 (.t 6) (.t 15))⟩, ⟨none, (.mov 7 (.t 16))⟩]
theorem uf10r18 : type_of% @f10r18.eq_1 := id @f10r18.eq_1
def f10b19 : AQ := (.seq (.region f10r18) .ret)
theorem uf10b19 (P ts os Q) : awl P f10b19 Q ts os = awl P (.seq (.region f10r18) .ret) Q ts os := id rfl
def f10b20 : AQ := (.cond (.t 14) f10b19 .skip)
theorem uf10b20 (P ts os Q) : awl P f10b20 Q ts os = awl P (.cond (.t 14) f10b19 .skip) Q ts os := id rfl
def f10r21 : List AI := [⟨none, (.mov 13 (.t 8))⟩, ⟨none, (.bin 14 .neq (.t 13) (.v (.k (.c (.int .i64 0)))))⟩]
theorem uf10r21 : type_of% @f10r21.eq_1 := id @f10r21.eq_1
def f10b22 : AQ := (.seq (.region f10r21) f10b20)
theorem uf10b22 (P ts os Q) : awl P f10b22 Q ts os = awl P (.seq (.region f10r21) f10b20) Q ts os := id rfl
def f10b23 : AQ := (.seq f10b22 f10b17)
theorem uf10b23 (P ts os Q) : awl P f10b23 Q ts os = awl P (.seq f10b22 f10b17) Q ts os := id rfl
def f10r24 : List AI := [⟨none, (.load 10 4 true (.t 3))⟩, ⟨none, (.mov 11 (.t 1))⟩, ⟨none, (.call (some 12) 27 [(.t 10), (.t 11)])⟩, ⟨none, (.mov 8 (.t 12))⟩]
theorem uf10r24 : type_of% @f10r24.eq_1 := id @f10r24.eq_1
def f10b25 : AQ := (.seq (.region f10r24) f10b23)
theorem uf10b25 (P ts os Q) : awl P f10b25 Q ts os = awl P (.seq (.region f10r24) f10b23) Q ts os := id rfl
def f10r26 : List AI := [⟨none, (.box 3 25 (.t 0))⟩, ⟨none, (.alloc 6 30 [(.bool false), (.int .i64 0)])⟩, ⟨none, (.mov 7 (.v (.k (.c (.int .i64 0)))))⟩]
theorem uf10r26 : type_of% @f10r26.eq_1 := id @f10r26.eq_1
def f10b27 : AQ := (.seq (.region f10r26) f10b25)
theorem uf10b27 (P ts os Q) : awl P f10b27 Q ts os = awl P (.seq (.region f10r26) f10b25) Q ts os := id rfl
def f10 : AQ := f10b27
theorem uf10 (P ts os Q) : awl P f10 Q ts os = awl P f10b27 Q ts os := id rfl
theorem hf10 : cFunc Tryd.prog 10 = some ⟨43, f10.erase, [(RX.cell 6 2 true), (RX.t 7)]⟩ := by kernel_rfl
theorem okf10 : f10.ok = true := by kernel_rfl
def f11r1 : List AI := [⟨none, (.mov 31 (.t 1))⟩, ⟨none, (.build 32 [(.int .i64 0), (.int .i64 0), (.bool false)] [(0, (1, (.t 31))), (1, (1, (.v (.k (.c (.int .i64 0))))))])⟩, ⟨none, (.store 3 (.t 4) (.t 32))⟩, ⟨none, (.mov 5 (.v (.k (.c (.int .i64 0)))))⟩]
theorem uf11r1 : type_of% @f11r1.eq_1 := id @f11r1.eq_1
def f11b2 : AQ := (.seq (.region f11r1) .ret)
theorem uf11b2 (P ts os Q) : awl P f11b2 Q ts os = awl P (.seq (.region f11r1) .ret) Q ts os := id rfl
def f11r3 : List AI := [⟨none, (.bin 30 .add (.t 21) (.v (.k (.c (.int .i64 1)))))⟩, ⟨none, (.mov 21 (.t 30))⟩]
theorem uf11r3 : type_of% @f11r3.eq_1 := id @f11r3.eq_1
def f11r4 : List AI := [⟨none, (.load 29 3 true (.t 9))⟩, ⟨none, (.store 3 (.t 4) (.t 29))⟩, ⟨none, (.mov 5 (.v (.k (.c (.int .i64 0)))))⟩]
theorem uf11r4 : type_of% @f11r4.eq_1 := id @f11r4.eq_1
def f11b5 : AQ := (.seq (.region f11r4) .ret)
theorem uf11b5 (P ts os Q) : awl P f11b5 Q ts os = awl P (.seq (.region f11r4) .ret) Q ts os := id rfl
def f11b6 : AQ := (.cond (.t 28) f11b5 .skip)
theorem uf11b6 (P ts os Q) : awl P f11b6 Q ts os = awl P (.cond (.t 28) f11b5 .skip) Q ts os := id rfl
def f11r7 : List AI := [⟨none, (.faddr 25 0 (.t 9))⟩, ⟨none, (.load 26 1 false (.t 25))⟩, ⟨none, (.mov 27 (.t 1))⟩, ⟨none, (.bin 28 .eql (.t 26) (.t 27))⟩]
theorem uf11r7 : type_of% @f11r7.eq_1 := id @f11r7.eq_1
def f11b8 : AQ := (.seq (.region f11r7) f11b6)
theorem uf11b8 (P ts os Q) : awl P f11b8 Q ts os = awl P (.seq (.region f11r7) f11b6) Q ts os := id rfl
def f11r9 : List AI := [⟨none, (.iaddr 23 3 (.t 19) (.t 21))⟩, ⟨none, (.load 24 3 true (.t 23))⟩, ⟨none, (.alloc 9 35 [(.int .i64 0), (.int .i64 0), (.bool false)])⟩, ⟨none, (.store 3 (.t 9) (.t 24))⟩]
theorem uf11r9 : type_of% @f11r9.eq_1 := id @f11r9.eq_1
def f11b10 : AQ := (.seq (.region f11r9) f11b8)
theorem uf11b10 (P ts os Q) : awl P f11b10 Q ts os = awl P (.seq (.region f11r9) f11b8) Q ts os := id rfl
def f11b11 : AQ := (.block 1 f11b10)
theorem uf11b11 (P ts os Q) : awl P f11b11 Q ts os = awl P (.block 1 f11b10) Q ts os := id rfl
def f11b12 : AQ := (.seq f11b11 (.region f11r3))
theorem uf11b12 (P ts os Q) : awl P f11b12 Q ts os = awl P (.seq f11b11 (.region f11r3)) Q ts os := id rfl
def f11b13 : AQ := (.cond (.t 22) .skip (.exit 0))
theorem uf11b13 (P ts os Q) : awl P f11b13 Q ts os = awl P (.cond (.t 22) .skip (.exit 0)) Q ts os := id rfl
def f11b14 : AQ := (.seq f11b13 f11b12)
theorem uf11b14 (P ts os Q) : awl P f11b14 Q ts os = awl P (.seq f11b13 f11b12) Q ts os := id rfl
def f11r15 : List AI := [⟨none, (.bin 22 .lss (.t 21) (.t 20))⟩]
theorem uf11r15 : type_of% @f11r15.eq_1 := id @f11r15.eq_1
def f11b16 : AQ := (.seq (.region f11r15) f11b14)
theorem uf11b16 (P ts os Q) : awl P f11b16 Q ts os = awl P (.seq (.region f11r15) f11b14) Q ts os := id rfl
def f11l17 : AQ := .loop [1, 4, 19, 20, 21] [4] f11b16
theorem uf11l17 (P ts os Q) : awl P f11l17 Q ts os = awl P (.loop [1, 4, 19, 20, 21] [4] f11b16) Q ts os := id rfl
def f11b18 : AQ := (.block 0 f11l17)
theorem uf11b18 (P ts os Q) : awl P f11b18 Q ts os = awl P (.block 0 f11l17) Q ts os := id rfl
def f11r19 : List AI := [⟨none, (.faddr 18 2 (.t 2))⟩, ⟨none, (.load 19 1 false (.t 18))⟩, ⟨none, (.len 20 (.t 19))⟩, ⟨none, (.mov 21 (.v (.k (.c (.int .i64 0)))))⟩]
theorem uf11r19 : type_of% @f11r19.eq_1 := id @f11r19.eq_1
def f11b20 : AQ := (.seq (.region f11r19) f11b18)
theorem uf11b20 (P ts os Q) : awl P f11b20 Q ts os = awl P (.seq (.region f11r19) f11b18) Q ts os := id rfl
def f11b21 : AQ := (.seq f11b20 f11b2)
theorem uf11b21 (P ts os Q) : awl P f11b21 Q ts os = awl P (.seq f11b20 f11b2) Q ts os := id rfl
def f11r22 : List AI := [⟨none, (.build 17 [(.int .i64 0), (.int .i64 0), (.bool false)] [])⟩, ⟨none, (.store 3 (.t 4) (.t 17))⟩, ⟨none, (.mov 5 (.v (.k (.c (.int .i64 1)))))⟩]
theorem uf11r22 : type_of% @f11r22.eq_1 := id @f11r22.eq_1
def f11b23 : AQ := (.seq (.region f11r22) .ret)
theorem uf11b23 (P ts os Q) : awl P f11b23 Q ts os = awl P (.seq (.region f11r22) .ret) Q ts os := id rfl
def f11b24 : AQ := (.cond (.t 16) f11b23 .skip)
theorem uf11b24 (P ts os Q) : awl P f11b24 Q ts os = awl P (.cond (.t 16) f11b23 .skip) Q ts os := id rfl
def f11r25 : List AI := [⟨none, (.mov 15 (.t 7))⟩, ⟨none, (.un 16 .not (.t 15))⟩]
theorem uf11r25 : type_of% @f11r25.eq_1 := id @f11r25.eq_1
def f11b26 : AQ := (.seq (.region f11r25) f11b24)
theorem uf11b26 (P ts os Q) : awl P f11b26 Q ts os = awl P (.seq (.region f11r25) f11b24) Q ts os := id rfl
def f11r27 : List AI := [⟨none, (.mov 11 (.t 1))⟩, ⟨none, (.call (some 12) 13 [(.t 11)])⟩, ⟨none, (.mov 10 (.t 12))⟩, ⟨none, (.extr 13 (.t 10) 0)⟩, ⟨none, (.extr 14 (.t 10) 1)⟩, ⟨none, (.mov 6 (.t 13))⟩, ⟨none, (.mov 7 (.t 14))⟩]
theorem uf11r27 : type_of% @f11r27.eq_1 := id @f11r27.eq_1
def f11b28 : AQ := (.seq (.region f11r27) f11b26)
theorem uf11b28 (P ts os Q) : awl P f11b28 Q ts os = awl P (.seq (.region f11r27) f11b26) Q ts os := id rfl
def f11b29 : AQ := (.seq f11b28 f11b21)
theorem uf11b29 (P ts os Q) : awl P f11b29 Q ts os = awl P (.seq f11b28 f11b21) Q ts os := id rfl
def f11r30 : List AI := [⟨none, (.box 2 25 (.t 0))⟩, ⟨none, (.alloc 4 35 [(.int .i64 0), (.int .i64 0), (.bool false)])⟩, ⟨none, (.mov 5 (.v (.k (.c (.int .i64 0)))))⟩]
theorem uf11r30 : type_of% @f11r30.eq_1 := id @f11r30.eq_1
def f11b31 : AQ := (.seq (.region f11r30) f11b29)
theorem uf11b31 (P ts os Q) : awl P f11b31 Q ts os = awl P (.seq (.region f11r30) f11b29) Q ts os := id rfl
def f11 : AQ := f11b31
theorem uf11 (P ts os Q) : awl P f11 Q ts os = awl P f11b31 Q ts os := id rfl
theorem hf11 : cFunc Tryd.prog 11 = some ⟨33, f11.erase, [(RX.cell 4 3 true), (RX.t 5)]⟩ := by kernel_rfl
theorem okf11 : f11.ok = true := by kernel_rfl
def f12r1 : List AI := [⟨none, (.mov 31 (.t 1))⟩, ⟨none, (.build 32 [(.int .i64 0), (.int .i64 0), (.bool false)] [(0, (1, (.t 31))), (1, (1, (.v (.k (.c (.int .i64 0))))))])⟩, ⟨none, (.store 3 (.t 4) (.t 32))⟩, ⟨none, (.mov 5 (.v (.k (.c (.int .i64 0)))))⟩]
theorem uf12r1 : type_of% @f12r1.eq_1 := id @f12r1.eq_1
def f12b2 : AQ := (.seq (.region f12r1) .ret)
theorem uf12b2 (P ts os Q) : awl P f12b2 Q ts os = awl P (.seq (.region f12r1) .ret) Q ts os := id rfl
def f12r3 : List AI := [⟨none, (.mov 16 (.t 6))⟩, ⟨none, (.bin 17 .add (.t 16) (.v (.k (.c (.int .i64 1)))))⟩, ⟨none, (.mov 6 (.t 17))⟩]
theorem uf12r3 : type_of% @f12r3.eq_1 := id @f12r3.eq_1
def f12r4 : List AI := [⟨none, (.faddr 26 2 (.t 2))⟩, ⟨none, (.load 27 1 false (.t 26))⟩, ⟨none, (.mov 28 (.t 6))⟩, ⟨none, (.iaddr 29 3 (.t 27) (.t 28))⟩, ⟨none, (.load 30 3 true (.t 29))⟩, ⟨none, (.store 3 (.t 4) (.t 30))⟩, ⟨none, (.mov 5 (.v (.k (.c (.int .i64 0)))))⟩]
theorem uf12r4 : type_of% @f12r4.eq_1 := id @f12r4.eq_1
def f12b5 : AQ := (.seq (.region f12r4) .ret)
theorem uf12b5 (P ts os Q) : awl P f12b5 Q ts os = awl P (.seq (.region f12r4) .ret) Q ts os := id rfl
def f12b6 : AQ := (.cond (.t 25) f12b5 .skip)
theorem uf12b6 (P ts os Q) : awl P f12b6 Q ts os = awl P (.cond (.t 25) f12b5 .skip) Q ts os := id rfl
def f12r7 : List AI := [⟨none, (.faddr 18 2 (.t 2))⟩, ⟨none, (.load 19 1 false (.t 18))⟩, ⟨none, (.mov 20 (.t 6))⟩, ⟨none, (.iaddr 21 3 (.t 19) (.t 20))⟩, ⟨none, (.faddr 22 0 (.t 21))⟩, ⟨none, (.load 23 1 false (.t 22))⟩, ⟨none, (.mov 24 (.t 1))⟩, ⟨none, (.bin 25 .eql (.t 23) (.t 24))⟩]
theorem uf12r7 : type_of% @f12r7.eq_1 := id @f12r7.eq_1
def f12b8 : AQ := (.seq (.region f12r7) f12b6)
theorem uf12b8 (P ts os Q) : awl P f12b8 Q ts os = awl P (.seq (.region f12r7) f12b6) Q ts os := id rfl
def f12b9 : AQ := (.block 1 f12b8)
theorem uf12b9 (P ts os Q) : awl P f12b9 Q ts os = awl P (.block 1 f12b8) Q ts os := id rfl
def f12b10 : AQ := (.seq f12b9 (.region f12r3))
theorem uf12b10 (P ts os Q) : awl P f12b10 Q ts os = awl P (.seq f12b9 (.region f12r3)) Q ts os := id rfl
def f12b11 : AQ := (.cond (.t 15) .skip (.exit 0))
theorem uf12b11 (P ts os Q) : awl P f12b11 Q ts os = awl P (.cond (.t 15) .skip (.exit 0)) Q ts os := id rfl
def f12r12 : List AI := [⟨none, (.mov 11 (.t 6))⟩, ⟨none, (.faddr 12 2 (.t 2))⟩, ⟨none, (.load 13 1 false (.t 12))⟩, ⟨none, (.len 14 (.t 13))⟩, ⟨none, (.bin 15 .lss (.t 11) (.t 14))⟩]
theorem uf12r12 : type_of% @f12r12.eq_1 := id @f12r12.eq_1
def f12b13 : AQ := (.seq (.region f12r12) f12b11)
theorem uf12b13 (P ts os Q) : awl P f12b13 Q ts os = awl P (.seq (.region f12r12) f12b11) Q ts os := id rfl
def f12b14 : AQ := (.seq f12b13 f12b10)
theorem uf12b14 (P ts os Q) : awl P f12b14 Q ts os = awl P (.seq f12b13 f12b10) Q ts os := id rfl
def f12l15 : AQ := .loop [1, 2, 4, 6] [2, 4] f12b14
theorem uf12l15 (P ts os Q) : awl P f12l15 Q ts os = awl P (.loop [1, 2, 4, 6] [2, 4] f12b14) Q ts os := id rfl
def f12b16 : AQ := (.block 0 f12l15)
theorem uf12b16 (P ts os Q) : awl P f12b16 Q ts os = awl P (.block 0 f12l15) Q ts os := id rfl
def f12r17 : List AI := [⟨none, (.mov 6 (.v (.k (.c (.int .i64 0)))))⟩]
theorem uf12r17 : type_of% @f12r17.eq_1 := id @f12r17.eq_1
def f12b18 : AQ := (.seq (.region f12r17) f12b16)
theorem uf12b18 (P ts os Q) : awl P f12b18 Q ts os = awl P (.seq (.region f12r17) f12b16) Q ts os := id rfl
def f12b19 : AQ := (.seq f12b18 f12b2)
theorem uf12b19 (P ts os Q) : awl P f12b19 Q ts os = awl P (.seq f12b18 f12b2) Q ts os := id rfl
def f12r20 : List AI := [⟨none, (.build 10 [(.int .i64 0), (.int .i64 0), (.bool false)] [])⟩, ⟨none, (.store 3 (.t 4) (.t 10))⟩, ⟨none, (.mov 5 (.v (.k (.c (.int .i64 1)))))⟩]
theorem uf12r20 : type_of% @f12r20.eq_1 := id @f12r20.eq_1
def f12b21 : AQ := (.seq (.region f12r20) .ret)
theorem uf12b21 (P ts os Q) : awl P f12b21 Q ts os = awl P (.seq (.region f12r20) .ret) Q ts os := id rfl
def f12b22 : AQ := (.cond (.t 9) f12b21 .skip)
theorem uf12b22 (P ts os Q) : awl P f12b22 Q ts os = awl P (.cond (.t 9) f12b21 .skip) Q ts os := id rfl
def f12r23 : List AI := [⟨none, (.mov 7 (.t 1))⟩, ⟨none, (.call (some 8) 30 [(.t 7)])⟩, ⟨none, (.un 9 .not (.t 8))⟩]
theorem uf12r23 : type_of% @f12r23.eq_1 := id @f12r23.eq_1
def f12b24 : AQ := (.seq (.region f12r23) f12b22)
theorem uf12b24 (P ts os Q) : awl P f12b24 Q ts os = awl P (.seq (.region f12r23) f12b22) Q ts os := id rfl
def f12b25 : AQ := (.seq f12b24 f12b19)
theorem uf12b25 (P ts os Q) : awl P f12b25 Q ts os = awl P (.seq f12b24 f12b19) Q ts os := id rfl
def f12r26 : List AI := [⟨none, (.box 2 25 (.t 0))⟩, ⟨none, (.alloc 4 35 [(.int .i64 0), (.int .i64 0), (.bool false)])⟩, ⟨none, (.mov 5 (.v (.k (.c (.int .i64 0)))))⟩]
theorem uf12r26 : type_of% @f12r26.eq_1 := id @f12r26.eq_1
def f12b27 : AQ := (.seq (.region f12r26) f12b25)
theorem uf12b27 (P ts os Q) : awl P f12b27 Q ts os = awl P (.seq (.region f12r26) f12b25) Q ts os := id rfl
def f12 : AQ := f12b27
theorem uf12 (P ts os Q) : awl P f12 Q ts os = awl P f12b27 Q ts os := id rfl
theorem hf12 : cFunc Tryd.prog 12 = some ⟨33, f12.erase, [(RX.cell 4 3 true), (RX.t 5)]⟩ := by kernel_rfl
theorem okf12 : f12.ok = true := by kernel_rfl
def f13r1 : List AI := [⟨none, (.mov 2 (.v (.k (.c (.int .i64 1)))))⟩, ⟨none, (.mov 3 (.v (.k (.c (.bool true)))))⟩]
theorem uf13r1 : type_of% @f13r1.eq_1 := id @f13r1.eq_1
def f13b2 : AQ := (.seq (.region f13r1) .ret)
theorem uf13b2 (P ts os Q) : awl P f13b2 Q ts os = awl P (.seq (.region f13r1) .ret) Q ts os := id rfl
def f13r3 : List AI := [⟨none, (.mov 2 (.v (.k (.c (.int .i64 0)))))⟩, ⟨none, (.mov 3 (.v (.k (.c (.bool false)))))⟩]
theorem uf13r3 : type_of% @f13r3.eq_1 := id @f13r3.eq_1
def f13b4 : AQ := (.seq (.region f13r3) .ret)
theorem uf13b4 (P ts os Q) : awl P f13b4 Q ts os = awl P (.seq (.region f13r3) .ret) Q ts os := id rfl
def f13r5 : List AI := [⟨none, (.mov 2 (.v (.k (.c (.int .i64 0)))))⟩, ⟨none, (.mov 3 (.v (.k (.c (.bool true)))))⟩]
theorem uf13r5 : type_of% @f13r5.eq_1 := id @f13r5.eq_1
def f13b6 : AQ := (.seq (.region f13r5) .ret)
theorem uf13b6 (P ts os Q) : awl P f13b6 Q ts os = awl P (.seq (.region f13r5) .ret) Q ts os := id rfl
def f13b7 : AQ := (.cond (.t 11) f13b6 .skip)
theorem uf13b7 (P ts os Q) : awl P f13b7 Q ts os = awl P (.cond (.t 11) f13b6 .skip) Q ts os := id rfl
def f13r8 : List AI := [⟨none, (.mov 12 (.v (.k (.c (C.gl 0)))))⟩, ⟨none, (.mov 13 (.t 0))⟩, ⟨none, (.call (some 14) 31 [(.t 12), (.t 13)])⟩, ⟨none, (.mov 11 (.t 14))⟩]
theorem uf13r8 : type_of% @f13r8.eq_1 := id @f13r8.eq_1
def f13b9 : AQ := (.seq (.region f13r8) f13b7)
theorem uf13b9 (P ts os Q) : awl P f13b9 Q ts os = awl P (.seq (.region f13r8) f13b7) Q ts os := id rfl
def f13b10 : AQ := (.cond (.t 4) f13b4 f13b9)
theorem uf13b10 (P ts os Q) : awl P f13b10 Q ts os = awl P (.cond (.t 4) f13b4 f13b9) Q ts os := id rfl
def f13r11 : List AI := [⟨none, (.mov 5 (.t 0))⟩, ⟨none, (.bin 6 .lss (.t 5) (.v (.k (.c (.int .i64 0)))))⟩, ⟨none, (.mov 7 (.t 6))⟩, ⟨(some (7, false)), (.mov 8 (.t 0))⟩, ⟨(some (7, false)), (.bin 9 .geq (.t 8) (.v (.k (.c (.int .i64 22)))))⟩, ⟨none, (.pick 10 (.t 7) (.v (.k (.c (.bool true)))) (.t 9))⟩, ⟨none, (.mov 4 (.t 10))⟩]
theorem uf13r11 : type_of% @f13r11.eq_1 := id @f13r11.eq_1
def f13b12 : AQ := (.seq (.region f13r11) f13b10)
theorem uf13b12 (P ts os Q) : awl P f13b12 Q ts os = awl P (.seq (.region f13r11) f13b10) Q ts os := id rfl
def f13b13 : AQ := (.block 0 f13b12)
theorem uf13b13 (P ts os Q) : awl P f13b13 Q ts os = awl P (.block 0 f13b12) Q ts os := id rfl
def f13b14 : AQ := (.seq f13b13 f13b2)
theorem uf13b14 (P ts os Q) : awl P f13b14 Q ts os = awl P (.seq f13b13 f13b2) Q ts os := id rfl
def f13r15 : List AI := [⟨none, (.mov 2 (.v (.k (.c (.int .i64 0)))))⟩, ⟨none, (.mov 3 (.v (.k (.c (.bool false)))))⟩]
theorem uf13r15 : type_of% @f13r15.eq_1 := id @f13r15.eq_1
def f13b16 : AQ := (.seq (.region f13r15) f13b14)
theorem uf13b16 (P ts os Q) : awl P f13b16 Q ts os = awl P (.seq (.region f13r15) f13b14) Q ts os := id rfl
def f13 : AQ := f13b16
theorem uf13 (P ts os Q) : awl P f13 Q ts os = awl P f13b16 Q ts os := id rfl
theorem hf13 : cFunc Tryd.prog 13 = some ⟨15, f13.erase, [(RX.t 2), (RX.t 3)]⟩ := by kernel_rfl
theorem okf13 : f13.ok = true := by kernel_rfl
def f14r1 : List AI := [⟨none, (.mov 2 (.v (.k (.c (.int .i64 0)))))⟩, ⟨none, (.mov 3 (.v (.k (.c (.bool true)))))⟩]
theorem uf14r1 : type_of% @f14r1.eq_1 := id @f14r1.eq_1
def f14b2 : AQ := (.seq (.region f14r1) .ret)
theorem uf14b2 (P ts os Q) : awl P f14b2 Q ts os = awl P (.seq (.region f14r1) .ret) Q ts os := id rfl
def f14r3 : List AI := [⟨none, (.mov 2 (.v (.k (.c (.int .i64 1)))))⟩, ⟨none, (.mov 3 (.v (.k (.c (.bool true)))))⟩]
theorem uf14r3 : type_of% @f14r3.eq_1 := id @f14r3.eq_1
def f14b4 : AQ := (.seq (.region f14r3) .ret)
theorem uf14b4 (P ts os Q) : awl P f14b4 Q ts os = awl P (.seq (.region f14r3) .ret) Q ts os := id rfl
def f14b5 : AQ := (.cond (.t 8) f14b4 .skip)
theorem uf14b5 (P ts os Q) : awl P f14b5 Q ts os = awl P (.cond (.t 8) f14b4 .skip) Q ts os := id rfl
def f14r6 : List AI := [⟨none, (.mov 7 (.t 0))⟩, ⟨none, (.call (some 8) 29 [(.t 7)])⟩]
theorem uf14r6 : type_of% @f14r6.eq_1 := id @f14r6.eq_1
def f14b7 : AQ := (.seq (.region f14r6) f14b5)
theorem uf14b7 (P ts os Q) : awl P f14b7 Q ts os = awl P (.seq (.region f14r6) f14b5) Q ts os := id rfl
def f14b8 : AQ := (.seq f14b7 f14b2)
theorem uf14b8 (P ts os Q) : awl P f14b8 Q ts os = awl P (.seq f14b7 f14b2) Q ts os := id rfl
def f14r9 : List AI := [⟨none, (.mov 2 (.v (.k (.c (.int .i64 0)))))⟩, ⟨none, (.mov 3 (.v (.k (.c (.bool false)))))⟩]
theorem uf14r9 : type_of% @f14r9.eq_1 := id @f14r9.eq_1
def f14b10 : AQ := (.seq (.region f14r9) .ret)
theorem uf14b10 (P ts os Q) : awl P f14b10 Q ts os = awl P (.seq (.region f14r9) .ret) Q ts os := id rfl
def f14b11 : AQ := (.cond (.t 6) f14b10 .skip)
theorem uf14b11 (P ts os Q) : awl P f14b11 Q ts os = awl P (.cond (.t 6) f14b10 .skip) Q ts os := id rfl
def f14r12 : List AI := [⟨none, (.mov 4 (.t 0))⟩, ⟨none, (.call (some 5) 30 [(.t 4)])⟩, ⟨none, (.un 6 .not (.t 5))⟩]
theorem uf14r12 : type_of% @f14r12.eq_1 := id @f14r12.eq_1
def f14b13 : AQ := (.seq (.region f14r12) f14b11)
theorem uf14b13 (P ts os Q) : awl P f14b13 Q ts os = awl P (.seq (.region f14r12) f14b11) Q ts os := id rfl
def f14b14 : AQ := (.seq f14b13 f14b8)
theorem uf14b14 (P ts os Q) : awl P f14b14 Q ts os = awl P (.seq f14b13 f14b8) Q ts os := id rfl
def f14r15 : List AI := [⟨none, (.mov 2 (.v (.k (.c (.int .i64 0)))))⟩, ⟨none, (.mov 3 (.v (.k (.c (.bool false)))))⟩]
theorem uf14r15 : type_of% @f14r15.eq_1 := id @f14r15.eq_1
def f14b16 : AQ := (.seq (.region f14r15) f14b14)
theorem uf14b16 (P ts os Q) : awl P f14b16 Q ts os = awl P (.seq (.region f14r15) f14b14) Q ts os := id rfl
def f14 : AQ := f14b16
theorem uf14 (P ts os Q) : awl P f14 Q ts os = awl P f14b16 Q ts os := id rfl
theorem hf14 : cFunc Tryd.prog 14 = some ⟨9, f14.erase, [(RX.t 2), (RX.t 3)]⟩ := by kernel_rfl
theorem okf14 : f14.ok = true := by kernel_rfl
def f15r1 : List AI := [⟨none, (.mov 4 (.v (.k (.c (.bool true)))))⟩]
theorem uf15r1 : type_of% @f15r1.eq_1 := id @f15r1.eq_1
def f15b2 : AQ := (.seq (.region f15r1) .ret)
theorem uf15b2 (P ts os Q) : awl P f15b2 Q ts os = awl P (.seq (.region f15r1) .ret) Q ts os := id rfl
def f15r3 : List AI := [⟨none, (.mov 15 (.t 5))⟩, ⟨none, (.bin 16 .add (.t 15) (.v (.k (.c (.int .i64 1)))))⟩, ⟨none, (.mov 5 (.t 16))⟩]
theorem uf15r3 : type_of% @f15r3.eq_1 := id @f15r3.eq_1
def f15r4 : List AI := [⟨none, (.mov 4 (.v (.k (.c (.bool false)))))⟩]
theorem uf15r4 : type_of% @f15r4.eq_1 := id @f15r4.eq_1
def f15b5 : AQ := (.seq (.region f15r4) .ret)
theorem uf15b5 (P ts os Q) : awl P f15b5 Q ts os = awl P (.seq (.region f15r4) .ret) Q ts os := id rfl
def f15b6 : AQ := (.cond (.t 25) f15b5 .skip)
theorem uf15b6 (P ts os Q) : awl P f15b6 Q ts os = awl P (.cond (.t 25) f15b5 .skip) Q ts os := id rfl
def f15r7 : List AI := [⟨none, (.mov 17 (.t 0))⟩, ⟨none, (.mov 18 (.t 5))⟩, ⟨none, (.iaddr 19 1 (.t 17) (.t 18))⟩, ⟨none, (.load 20 1 false (.t 19))⟩, ⟨none, (.mov 21 (.t 1))⟩, ⟨none, (.mov 22 (.t 5))⟩, ⟨none, (.iaddr 23 1 (.t 21) (.t 22))⟩, ⟨none, (.load 24 1 false (.t 23))⟩, ⟨none, (.bin 25 .neq (.t 20) (.t 24))⟩]
theorem uf15r7 : type_of% @f15r7.eq_1 := id @f15r7.eq_1
def f15b8 : AQ := (.seq (.draw f15r7 [[], [], [0, 1], [2], [], [], [4, 5], [6], [3, 7]]) f15b6)
theorem uf15b8 (P ts os Q) : awl P f15b8 Q ts os = awl P (.seq (.draw f15r7 [[], [], [0, 1], [2], [], [], [4, 5], [6], [3, 7]]) f15b6) Q ts os := id rfl
def f15b9 : AQ := (.block 1 f15b8)
theorem uf15b9 (P ts os Q) : awl P f15b9 Q ts os = awl P (.block 1 f15b8) Q ts os := id rfl
def f15b10 : AQ := (.seq f15b9 (.region f15r3))
theorem uf15b10 (P ts os Q) : awl P f15b10 Q ts os = awl P (.seq f15b9 (.region f15r3)) Q ts os := id rfl
def f15b11 : AQ := (.cond (.t 14) .skip (.exit 0))
theorem uf15b11 (P ts os Q) : awl P f15b11 Q ts os = awl P (.cond (.t 14) .skip (.exit 0)) Q ts os := id rfl
def f15r12 : List AI := [⟨none, (.mov 11 (.t 5))⟩, ⟨none, (.mov 12 (.t 0))⟩, ⟨none, (.len 13 (.t 12))⟩, ⟨none, (.bin 14 .lss (.t 11) (.t 13))⟩]
theorem uf15r12 : type_of% @f15r12.eq_1 := id @f15r12.eq_1
def f15b13 : AQ := (.seq (.region f15r12) f15b11)
theorem uf15b13 (P ts os Q) : awl P f15b13 Q ts os = awl P (.seq (.region f15r12) f15b11) Q ts os := id rfl
def f15b14 : AQ := (.seq f15b13 f15b10)
theorem uf15b14 (P ts os Q) : awl P f15b14 Q ts os = awl P (.seq f15b13 f15b10) Q ts os := id rfl
def f15l15 : AQ := .loop [0, 1, 5] [] f15b14
theorem uf15l15 (P ts os Q) : awl P f15l15 Q ts os = awl P (.loop [0, 1, 5] [] f15b14) Q ts os := id rfl
def f15b16 : AQ := (.block 0 f15l15)
theorem uf15b16 (P ts os Q) : awl P f15b16 Q ts os = awl P (.block 0 f15l15) Q ts os := id rfl
def f15r17 : List AI := [⟨none, (.mov 5 (.v (.k (.c (.int .i64 0)))))⟩]
theorem uf15r17 : type_of% @f15r17.eq_1 := id @f15r17.eq_1
def f15b18 : AQ := (.seq (.region f15r17) f15b16)
theorem uf15b18 (P ts os Q) : awl P f15b18 Q ts os = awl P (.seq (.region f15r17) f15b16) Q ts os := id rfl
def f15b19 : AQ := (.seq f15b18 f15b2)
theorem uf15b19 (P ts os Q) : awl P f15b19 Q ts os = awl P (.seq f15b18 f15b2) Q ts os := id rfl
def f15r20 : List AI := [⟨none, (.mov 4 (.v (.k (.c (.bool false)))))⟩]
theorem uf15r20 : type_of% @f15r20.eq_1 := id @f15r20.eq_1
def f15b21 : AQ := (.seq (.region f15r20) .ret)
theorem uf15b21 (P ts os Q) : awl P f15b21 Q ts os = awl P (.seq (.region f15r20) .ret) Q ts os := id rfl
def f15b22 : AQ := (.cond (.t 10) f15b21 .skip)
theorem uf15b22 (P ts os Q) : awl P f15b22 Q ts os = awl P (.cond (.t 10) f15b21 .skip) Q ts os := id rfl
def f15r23 : List AI := [⟨none, (.mov 6 (.t 0))⟩, ⟨none, (.len 7 (.t 6))⟩, ⟨none, (.mov 8 (.t 1))⟩, ⟨none, (.len 9 (.t 8))⟩, ⟨none, (.bin 10 .neq (.t 7) (.t 9))⟩]
theorem uf15r23 : type_of% @f15r23.eq_1 := id @f15r23.eq_1
def f15b24 : AQ := (.seq (.region f15r23) f15b22)
theorem uf15b24 (P ts os Q) : awl P f15b24 Q ts os = awl P (.seq (.region f15r23) f15b22) Q ts os := id rfl
def f15b25 : AQ := (.seq f15b24 f15b19)
theorem uf15b25 (P ts os Q) : awl P f15b25 Q ts os = awl P (.seq f15b24 f15b19) Q ts os := id rfl
def f15r26 : List AI := [⟨none, (.mov 4 (.v (.k (.c (.bool false)))))⟩]
theorem uf15r26 : type_of% @f15r26.eq_1 := id @f15r26.eq_1
def f15b27 : AQ := (.seq (.region f15r26) f15b25)
theorem uf15b27 (P ts os Q) : awl P f15b27 Q ts os = awl P (.seq (.region f15r26) f15b25) Q ts os := id rfl
def f15 : AQ := f15b27
theorem uf15 (P ts os Q) : awl P f15 Q ts os = awl P f15b27 Q ts os := id rfl
theorem hf15 : cFunc Tryd.prog 15 = some ⟨26, f15.erase, [(RX.t 4)]⟩ := by kernel_rfl
theorem okf15 : f15.ok = true := by kernel_rfl
def f16r1 : List AI := [⟨none, (.load 17 3 true (.t 7))⟩, ⟨none, (.mov 18 (.t 2))⟩, ⟨none, (.call (some 19) 32 [(.t 17), (.t 18)])⟩, ⟨none, (.mov 6 (.t 19))⟩]
theorem uf16r1 : type_of% @f16r1.eq_1 := id @f16r1.eq_1
def f16b2 : AQ := (.seq (.region f16r1) .ret)
theorem uf16b2 (P ts os Q) : awl P f16b2 Q ts os = awl P (.seq (.region f16r1) .ret) Q ts os := id rfl
def f16r3 : List AI := [⟨none, (.nilL 6 3 1)⟩]
theorem uf16r3 : type_of% @f16r3.eq_1 := id @f16r3.eq_1
def f16b4 : AQ := (.seq (.region f16r3) .ret)
theorem uf16b4 (P ts os Q) : awl P f16b4 Q ts os = awl P (.seq (.region f16r3) .ret) Q ts os := id rfl
def f16b5 : AQ := (.cond (.t 16) f16b4 .skip)
theorem uf16b5 (P ts os Q) : awl P f16b5 Q ts os = awl P (.cond (.t 16) f16b4 .skip) Q ts os := id rfl
def f16r6 : List AI := [⟨none, (.mov 15 (.t 8))⟩, ⟨none, (.bin 16 .neq (.t 15) (.v (.k (.c (.int .i64 0)))))⟩]
theorem uf16r6 : type_of% @f16r6.eq_1 := id @f16r6.eq_1
def f16b7 : AQ := (.seq (.region f16r6) f16b5)
theorem uf16b7 (P ts os Q) : awl P f16b7 Q ts os = awl P (.seq (.region f16r6) f16b5) Q ts os := id rfl
def f16b8 : AQ := (.seq f16b7 f16b2)
theorem uf16b8 (P ts os Q) : awl P f16b8 Q ts os = awl P (.seq f16b7 f16b2) Q ts os := id rfl
def f16r9 : List AI := [⟨none, (.load 10 4 true (.t 3))⟩, ⟨none, (.mov 11 (.t 1))⟩, ⟨none, (.call (some 12) 25 [(.t 10), (.t 11)])⟩, ⟨none, (.mov 9 (.t 12))⟩, ⟨none, (.extr 13 (.t 9) 0)⟩, ⟨none, (.extr 14 (.t 9) 1)⟩, ⟨none, (.alloc 7 50 [(.int .i64 0), (.int .i64 0), (.list 0 (some true) [])])⟩, ⟨none, (.store 3 (.t 7) (.t 13))⟩, ⟨none, (.mov 8 (.t 14))⟩]
theorem uf16r9 : type_of% @f16r9.eq_1 := id @f16r9.eq_1
def f16b10 : AQ := (.seq (.region f16r9) f16b8)
theorem uf16b10 (P ts os Q) : awl P f16b10 Q ts os = awl P (.seq (.region f16r9) f16b8) Q ts os := id rfl
def f16r11 : List AI := [⟨none, (.box 3 25 (.t 0))⟩, ⟨none, (.nilL 6 3 1)⟩]
theorem uf16r11 : type_of% @f16r11.eq_1 := id @f16r11.eq_1
def f16b12 : AQ := (.seq (.region f16r11) f16b10)
theorem uf16b12 (P ts os Q) : awl P f16b12 Q ts os = awl P (.seq (.region f16r11) f16b10) Q ts os := id rfl
def f16 : AQ := f16b12
theorem uf16 (P ts os Q) : awl P f16 Q ts os = awl P f16b12 Q ts os := id rfl
theorem hf16 : cFunc Tryd.prog 16 = some ⟨20, f16.erase, [(RX.t 6)]⟩ := by kernel_rfl
theorem okf16 : f16.ok = true := by kernel_rfl
def f17r1 : List AI := [⟨none, (.faddr 11 3 (.t 3))⟩, ⟨none, (.load 12 1 false (.t 11))⟩, ⟨none, (.load 13 4 true (.t 3))⟩, ⟨none, (.mov 14 (.t 1))⟩, ⟨none, (.call (some 15) 21 [(.t 13), (.t 14)])⟩, ⟨none, (.iaddr 16 4 (.t 12) (.t 15))⟩, ⟨none, (.faddr 17 1 (.t 16))⟩, ⟨none, (.load 18 3 true (.t 17))⟩, ⟨none, (.mov 19 (.t 2))⟩, ⟨none, (.call (some 20) 33 [(.t 18), (.t 19)])⟩, ⟨none, (.mov 6 (.t 20))⟩]
theorem uf17r1 : type_of% @f17r1.eq_1 := id @f17r1.eq_1
def f17b2 : AQ := (.seq (.draw f17r1 [[], [0], [], [], [2, 3], [1, 4], [5], [6], [], [7, 8, 4], [9, 9, 0, 1, 2, 3, 4, 5, 6, 7, 8, 9]]) .ret)
theorem uf17b2 (P ts os Q) : awl P f17b2 Q ts os = awl P (.seq (.draw f17r1 [[], [0], [], [], [2, 3], [1, 4], [5], [6], [], [7, 8, 4], [9, 9, 0, 1, 2, 3, 4, 5, 6, 7, 8, 9]]) .ret) Q ts os := id rfl
def f17r3 : List AI := [⟨none, (.nilL 6 3 1)⟩]
theorem uf17r3 : type_of% @f17r3.eq_1 := id @f17r3.eq_1
def f17b4 : AQ := (.seq (.region f17r3) .ret)
theorem uf17b4 (P ts os Q) : awl P f17b4 Q ts os = awl P (.seq (.region f17r3) .ret) Q ts os := id rfl
def f17b5 : AQ := (.cond (.t 10) f17b4 .skip)
theorem uf17b5 (P ts os Q) : awl P f17b5 Q ts os = awl P (.cond (.t 10) f17b4 .skip) Q ts os := id rfl
def f17r6 : List AI := [⟨none, (.load 7 4 true (.t 3))⟩, ⟨none, (.mov 8 (.t 1))⟩, ⟨none, (.call (some 9) 27 [(.t 7), (.t 8)])⟩, ⟨none, (.bin 10 .neq (.t 9) (.v (.k (.c (.int .i64 0)))))⟩]
theorem uf17r6 : type_of% @f17r6.eq_1 := id @f17r6.eq_1
def f17b7 : AQ := (.seq (.region f17r6) f17b5)
theorem uf17b7 (P ts os Q) : awl P f17b7 Q ts os = awl P (.seq (.region f17r6) f17b5) Q ts os := id rfl
def f17b8 : AQ := (.seq f17b7 f17b2)
theorem uf17b8 (P ts os Q) : awl P f17b8 Q ts os = awl P (.seq f17b7 f17b2) Q ts os := id rfl
def f17r9 : List AI := [⟨none, (.box 3 25 (.t 0))⟩, ⟨none, (.nilL 6 3 1)⟩]
theorem uf17r9 : type_of% @f17r9.eq_1 := id @f17r9.eq_1
def f17b10 : AQ := (.seq (.region f17r9) f17b8)
theorem uf17b10 (P ts os Q) : awl P f17b10 Q ts os = awl P (.seq (.region f17r9) f17b8) Q ts os := id rfl
def f17 : AQ := f17b10
theorem uf17 (P ts os Q) : awl P f17 Q ts os = awl P f17b10 Q ts os := id rfl
theorem hf17 : cFunc Tryd.prog 17 = some ⟨21, f17.erase, [(RX.t 6)]⟩ := by kernel_rfl
theorem okf17 : f17.ok = true := by kernel_rfl
def f18r1 : List AI := [⟨none, (.load 15 3 true (.t 5))⟩, ⟨none, (.call (some 16) 34 [(.t 15)])⟩, ⟨none, (.mov 4 (.t 16))⟩]
theorem uf18r1 : type_of% @f18r1.eq_1 := id @f18r1.eq_1
def f18b2 : AQ := (.seq (.region f18r1) .ret)
theorem uf18b2 (P ts os Q) : awl P f18b2 Q ts os = awl P (.seq (.region f18r1) .ret) Q ts os := id rfl
def f18r3 : List AI := [⟨none, (.nilL 4 3 1)⟩]
theorem uf18r3 : type_of% @f18r3.eq_1 := id @f18r3.eq_1
def f18b4 : AQ := (.seq (.region f18r3) .ret)
theorem uf18b4 (P ts os Q) : awl P f18b4 Q ts os = awl P (.seq (.region f18r3) .ret) Q ts os := id rfl
def f18b5 : AQ := (.cond (.t 14) f18b4 .skip)
theorem uf18b5 (P ts os Q) : awl P f18b5 Q ts os = awl P (.cond (.t 14) f18b4 .skip) Q ts os := id rfl
def f18r6 : List AI := [⟨none, (.mov 13 (.t 6))⟩, ⟨none, (.bin 14 .neq (.t 13) (.v (.k (.c (.int .i64 0)))))⟩]
theorem uf18r6 : type_of% @f18r6.eq_1 := id @f18r6.eq_1
def f18b7 : AQ := (.seq (.region f18r6) f18b5)
theorem uf18b7 (P ts os Q) : awl P f18b7 Q ts os = awl P (.seq (.region f18r6) f18b5) Q ts os := id rfl
def f18b8 : AQ := (.seq f18b7 f18b2)
theorem uf18b8 (P ts os Q) : awl P f18b8 Q ts os = awl P (.seq f18b7 f18b2) Q ts os := id rfl
def f18r9 : List AI := [⟨none, (.load 8 4 true (.t 2))⟩, ⟨none, (.mov 9 (.t 1))⟩, ⟨none, (.call (some 10) 25 [(.t 8), (.t 9)])⟩, ⟨none, (.mov 7 (.t 10))⟩, ⟨none, (.extr 11 (.t 7) 0)⟩, ⟨none, (.extr 12 (.t 7) 1)⟩, ⟨none, (.alloc 5 50 [(.int .i64 0), (.int .i64 0), (.list 0 (some true) [])])⟩, ⟨none, (.store 3 (.t 5) (.t 11))⟩, ⟨none, (.mov 6 (.t 12))⟩]
theorem uf18r9 : type_of% @f18r9.eq_1 := id @f18r9.eq_1
def f18b10 : AQ := (.seq (.region f18r9) f18b8)
theorem uf18b10 (P ts os Q) : awl P f18b10 Q ts os = awl P (.seq (.region f18r9) f18b8) Q ts os := id rfl
def f18r11 : List AI := [⟨none, (.box 2 25 (.t 0))⟩, ⟨none, (.nilL 4 3 1)⟩]
theorem uf18r11 : type_of% @f18r11.eq_1 := id @f18r11.eq_1
def f18b12 : AQ := (.seq (.region f18r11) f18b10)
theorem uf18b12 (P ts os Q) : awl P f18b12 Q ts os = awl P (.seq (.region f18r11) f18b10) Q ts os := id rfl
def f18 : AQ := f18b12
theorem uf18 (P ts os Q) : awl P f18 Q ts os = awl P f18b12 Q ts os := id rfl
theorem hf18 : cFunc Tryd.prog 18 = some ⟨17, f18.erase, [(RX.t 4)]⟩ := by kernel_rfl
theorem okf18 : f18.ok = true := by kernel_rfl
def f19r1 : List AI := [⟨none, (.faddr 9 3 (.t 2))⟩, ⟨none, (.load 10 1 false (.t 9))⟩, ⟨none, (.load 11 4 true (.t 2))⟩, ⟨none, (.mov 12 (.t 1))⟩, ⟨none, (.call (some 13) 21 [(.t 11), (.t 12)])⟩, ⟨none, (.iaddr 14 4 (.t 10) (.t 13))⟩, ⟨none, (.faddr 15 1 (.t 14))⟩, ⟨none, (.load 16 3 true (.t 15))⟩, ⟨none, (.call (some 17) 35 [(.t 16)])⟩, ⟨none, (.mov 4 (.t 17))⟩]
theorem uf19r1 : type_of% @f19r1.eq_1 := id @f19r1.eq_1
def f19b2 : AQ := (.seq (.draw f19r1 [[], [0], [], [], [2, 3], [1, 4], [5], [6], [7, 4], [8, 8, 0, 1, 2, 3, 4, 5, 6, 7, 8]]) .ret)
theorem uf19b2 (P ts os Q) : awl P f19b2 Q ts os = awl P (.seq (.draw f19r1 [[], [0], [], [], [2, 3], [1, 4], [5], [6], [7, 4], [8, 8, 0, 1, 2, 3, 4, 5, 6, 7, 8]]) .ret) Q ts os := id rfl
def f19r3 : List AI := [⟨none, (.nilL 4 3 1)⟩]
theorem uf19r3 : type_of% @f19r3.eq_1 := id @f19r3.eq_1
def f19b4 : AQ := (.seq (.region f19r3) .ret)
theorem uf19b4 (P ts os Q) : awl P f19b4 Q ts os = awl P (.seq (.region f19r3) .ret) Q ts os := id rfl
def f19b5 : AQ := (.cond (.t 8) f19b4 .skip)
theorem uf19b5 (P ts os Q) : awl P f19b5 Q ts os = awl P (.cond (.t 8) f19b4 .skip) Q ts os := id rfl
def f19r6 : List AI := [⟨none, (.load 5 4 true (.t 2))⟩, ⟨none, (.mov 6 (.t 1))⟩, ⟨none, (.call (some 7) 27 [(.t 5), (.t 6)])⟩, ⟨none, (.bin 8 .neq (.t 7) (.v (.k (.c (.int .i64 0)))))⟩]
theorem uf19r6 : type_of% @f19r6.eq_1 := id @f19r6.eq_1
def f19b7 : AQ := (.seq (.region f19r6) f19b5)
theorem uf19b7 (P ts os Q) : awl P f19b7 Q ts os = awl P (.seq (.region f19r6) f19b5) Q ts os := id rfl
def f19b8 : AQ := (.seq f19b7 f19b2)
theorem uf19b8 (P ts os Q) : awl P f19b8 Q ts os = awl P (.seq f19b7 f19b2) Q ts os := id rfl
def f19r9 : List AI := [⟨none, (.box 2 25 (.t 0))⟩, ⟨none, (.nilL 4 3 1)⟩]
theorem uf19r9 : type_of% @f19r9.eq_1 := id @f19r9.eq_1
def f19b10 : AQ := (.seq (.region f19r9) f19b8)
theorem uf19b10 (P ts os Q) : awl P f19b10 Q ts os = awl P (.seq (.region f19r9) f19b8) Q ts os := id rfl
def f19 : AQ := f19b10
theorem uf19 (P ts os Q) : awl P f19 Q ts os = awl P f19b10 Q ts os := id rfl
theorem hf19 : cFunc Tryd.prog 19 = some ⟨18, f19.erase, [(RX.t 4)]⟩ := by kernel_rfl
theorem okf19 : f19.ok = true := by kernel_rfl
def f20r1 : List AI := [⟨none, (.mov 50 (.t 5))⟩, ⟨none, (.mov 4 (.t 50))⟩]
def f20b2 : AQ := (.seq (.region f20r1) .ret)
def f20r3 : List AI := [⟨none, (.mov 17 (.t 6))⟩, ⟨none, (.bin 18 .add (.t 17) (.v (.k (.c (.int .i64 1)))))⟩, ⟨none, (.mov 6 (.t 18))⟩]
def f20r4 : List AI := [⟨none, (.mov 36 (.t 5))⟩, ⟨none, (.mov 37 (.t 0))⟩, ⟨none, (.mov 38 (.t 6))⟩, ⟨none, (.iaddr 39 2 (.t 37) (.t 38))⟩, ⟨none, (.load 40 2 true (.t 39))⟩, ⟨none, (.bslice 41 30 2 [(.bool false), (.int .i64 0)] 1 [(0, (.t 40))])⟩, ⟨none, (.append 42 30 2 16 (.t 36) (.t 41))⟩, ⟨none, (.mov 5 (.t 42))⟩]
def f20r5 : List AI := [⟨none, (.mov 43 (.t 5))⟩, ⟨none, (.mov 44 (.t 1))⟩, ⟨none, (.mov 45 (.t 6))⟩, ⟨none, (.iaddr 46 2 (.t 44) (.t 45))⟩, ⟨none, (.load 47 2 true (.t 46))⟩, ⟨none, (.bslice 48 30 2 [(.bool false), (.int .i64 0)] 1 [(0, (.t 47))])⟩, ⟨none, (.append 49 30 2 16 (.t 43) (.t 48))⟩, ⟨none, (.mov 5 (.t 49))⟩]
def f20b6 : AQ := (.cond (.t 35) (.region f20r4) (.region f20r5))
def f20r7 : List AI := [⟨none, (.mov 19 (.t 6))⟩, ⟨none, (.mov 20 (.t 0))⟩, ⟨none, (.len 21 (.t 20))⟩, ⟨none, (.bin 22 .lss (.t 19) (.t 21))⟩, ⟨none, (.mov 23 (.t 22))⟩, ⟨(some (23, true)), (.mov 24 (.t 0))⟩, ⟨(some (23, true)), (.mov 25 (.t 6))⟩, ⟨(some (23, true)), (.iaddr 26 2 (.t 24) (.t 25))⟩, ⟨(some (23, true)), (.faddr 27 0 (.t 26))⟩, ⟨(some (23, true)), (.load 28 1 false (.t 27))⟩, ⟨(some (23, true)), (.mov 29 (.t 28))⟩, ⟨(some (29, false)), (.mov 30 (.t 6))⟩, ⟨(some (29, false)), (.mov 31 (.t 1))⟩, ⟨(some (29, false)), (.len 32 (.t 31))⟩, ⟨(some (29, false)), (.bin 33 .geq (.t 30) (.t 32))⟩, ⟨(some (23, true)), (.pick 34 (.t 29) (.v (.k (.c (.bool true)))) (.t 33))⟩, ⟨none, (.pick 35 (.t 23) (.t 34) (.v (.k (.c (.bool false)))))⟩]
def f20b8 : AQ := (.seq (.region f20r7) f20b6)
def f20b9 : AQ := (.block 1 f20b8)
def f20b10 : AQ := (.seq f20b9 (.region f20r3))
def f20b11 : AQ := (.cond (.t 16) .skip (.exit 0))
def f20r12 : List AI := [⟨none, (.mov 7 (.t 6))⟩, ⟨none, (.mov 8 (.t 0))⟩, ⟨none, (.len 9 (.t 8))⟩, ⟨none, (.bin 10 .lss (.t 7) (.t 9))⟩, ⟨none, (.mov 11 (.t 10))⟩, ⟨(some (11, false)), (.mov 12 (.t 6))⟩, ⟨(some (11, false)), (.mov 13 (.t 1))⟩, ⟨(some (11, false)), (.len 14 (.t 13))⟩, ⟨(some (11, false)), (.bin 15 .lss (.t 12) (.t 14))⟩, ⟨none, (.pick 16 (.t 11) (.v (.k (.c (.bool true)))) (.t 15))⟩]
def f20b13 : AQ := (.seq (.region f20r12) f20b11)
def f20b14 : AQ := (.seq f20b13 f20b10)
def f20l15 : AQ := .loop [0, 1, 5, 6] [5, 42, 49] f20b14
def f20b16 : AQ := (.block 0 f20l15)
def f20r17 : List AI := [⟨none, (.mov 6 (.v (.k (.c (.int .i64 0)))))⟩]
def f20b18 : AQ := (.seq (.region f20r17) f20b16)
def f20b19 : AQ := (.seq f20b18 f20b2)
def f20r20 : List AI := [⟨none, (.nilL 5 30 2)⟩]
def f20b21 : AQ := (.seq (.region f20r20) f20b19)
def f20r22 : List AI := [⟨none, (.nilL 4 30 2)⟩]
def f20b23 : AQ := (.seq (.region f20r22) f20b21)
def f20 : AQ := f20b23
def f21r1 : List AI := [⟨none, (.mov 4 (.v (.k (.c (.int .i64 (-1))))))⟩]
theorem uf21r1 : type_of% @f21r1.eq_1 := id @f21r1.eq_1
def f21b2 : AQ := (.seq (.region f21r1) .ret)
theorem uf21b2 (P ts os Q) : awl P f21b2 Q ts os = awl P (.seq (.region f21r1) .ret) Q ts os := id rfl
def f21r3 : List AI := [⟨none, (.mov 11 (.t 5))⟩, ⟨none, (.bin 12 .add (.t 11) (.v (.k (.c (.int .i64 1)))))⟩, ⟨none, (.mov 5 (.t 12))⟩]
theorem uf21r3 : type_of% @f21r3.eq_1 := id @f21r3.eq_1
def f21r4 : List AI := [⟨none, (.mov 21 (.t 5))⟩, ⟨none, (.mov 4 (.t 21))⟩]
theorem uf21r4 : type_of% @f21r4.eq_1 := id @f21r4.eq_1
def f21b5 : AQ := (.seq (.region f21r4) .ret)
theorem uf21b5 (P ts os Q) : awl P f21b5 Q ts os = awl P (.seq (.region f21r4) .ret) Q ts os := id rfl
def f21b6 : AQ := (.cond (.t 20) f21b5 .skip)
theorem uf21b6 (P ts os Q) : awl P f21b6 Q ts os = awl P (.cond (.t 20) f21b5 .skip) Q ts os := id rfl
def f21r7 : List AI := [⟨none, (.faddr 13 3 (.t 2))⟩, ⟨none, (.load 14 1 false (.t 13))⟩, ⟨none, (.mov 15 (.t 5))⟩, ⟨none, (.iaddr 16 4 (.t 14) (.t 15))⟩, ⟨none, (.faddr 17 0 (.t 16))⟩, ⟨none, (.load 18 1 false (.t 17))⟩, ⟨none, (.mov 19 (.t 1))⟩, ⟨none, (.bin 20 .eql (.t 18) (.t 19))⟩]
theorem uf21r7 : type_of% @f21r7.eq_1 := id @f21r7.eq_1
def f21b8 : AQ := (.seq (.region f21r7) f21b6)
theorem uf21b8 (P ts os Q) : awl P f21b8 Q ts os = awl P (.seq (.region f21r7) f21b6) Q ts os := id rfl
def f21b9 : AQ := (.block 1 f21b8)
theorem uf21b9 (P ts os Q) : awl P f21b9 Q ts os = awl P (.block 1 f21b8) Q ts os := id rfl
def f21b10 : AQ := (.seq f21b9 (.region f21r3))
theorem uf21b10 (P ts os Q) : awl P f21b10 Q ts os = awl P (.seq f21b9 (.region f21r3)) Q ts os := id rfl
def f21b11 : AQ := (.cond (.t 10) .skip (.exit 0))
theorem uf21b11 (P ts os Q) : awl P f21b11 Q ts os = awl P (.cond (.t 10) .skip (.exit 0)) Q ts os := id rfl
def f21r12 : List AI := [⟨none, (.mov 6 (.t 5))⟩, ⟨none, (.faddr 7 3 (.t 2))⟩, ⟨none, (.load 8 1 false (.t 7))⟩, ⟨none, (.len 9 (.t 8))⟩, ⟨none, (.bin 10 .lss (.t 6) (.t 9))⟩]
theorem uf21r12 : type_of% @f21r12.eq_1 := id @f21r12.eq_1
def f21b13 : AQ := (.seq (.region f21r12) f21b11)
theorem uf21b13 (P ts os Q) : awl P f21b13 Q ts os = awl P (.seq (.region f21r12) f21b11) Q ts os := id rfl
def f21b14 : AQ := (.seq f21b13 f21b10)
theorem uf21b14 (P ts os Q) : awl P f21b14 Q ts os = awl P (.seq f21b13 f21b10) Q ts os := id rfl
def f21l15 : AQ := .loop [1, 2, 5] [2] f21b14
theorem uf21l15 (P ts os Q) : awl P f21l15 Q ts os = awl P (.loop [1, 2, 5] [2] f21b14) Q ts os := id rfl
def f21b16 : AQ := (.block 0 f21l15)
theorem uf21b16 (P ts os Q) : awl P f21b16 Q ts os = awl P (.block 0 f21l15) Q ts os := id rfl
def f21r17 : List AI := [⟨none, (.mov 5 (.v (.k (.c (.int .i64 0)))))⟩]
theorem uf21r17 : type_of% @f21r17.eq_1 := id @f21r17.eq_1
def f21b18 : AQ := (.seq (.region f21r17) f21b16)
theorem uf21b18 (P ts os Q) : awl P f21b18 Q ts os = awl P (.seq (.region f21r17) f21b16) Q ts os := id rfl
def f21b19 : AQ := (.seq f21b18 f21b2)
theorem uf21b19 (P ts os Q) : awl P f21b19 Q ts os = awl P (.seq f21b18 f21b2) Q ts os := id rfl
def f21r20 : List AI := [⟨none, (.box 2 25 (.t 0))⟩, ⟨none, (.mov 4 (.v (.k (.c (.int .i64 0)))))⟩]
theorem uf21r20 : type_of% @f21r20.eq_1 := id @f21r20.eq_1
def f21b21 : AQ := (.seq (.region f21r20) f21b19)
theorem uf21b21 (P ts os Q) : awl P f21b21 Q ts os = awl P (.seq (.region f21r20) f21b19) Q ts os := id rfl
def f21 : AQ := f21b21
theorem uf21 (P ts os Q) : awl P f21 Q ts os = awl P f21b21 Q ts os := id rfl
theorem hf21 : cFunc Tryd.prog 21 = some ⟨22, f21.erase, [(RX.t 4)]⟩ := by kernel_rfl
theorem okf21 : f21.ok = true := by kernel_rfl
def f22r1 : List AI := [⟨none, (.build 18 [(.int .i64 0), (.int .i64 0), (.bool false)] [(0, (1, (.v (.k (.c (.int .i64 6)))))), (1, (1, (.v (.k (.c (.int .i64 2))))))])⟩, ⟨none, (.bslice 19 35 3 [(.int .i64 0), (.int .i64 0), (.bool false)] 1 [(0, (.t 18))])⟩, ⟨none, (.load 20 3 true (.t 5))⟩, ⟨none, (.build 21 [(.int .i64 0), (.int .i64 0), (.int .i64 0), (.list 0 (some true) [])] [(0, (1, (.v (.k (.c (.int .i64 2)))))), (1, (3, (.t 20)))])⟩, ⟨none, (.load 22 3 true (.t 4))⟩, ⟨none, (.build 23 [(.int .i64 0), (.int .i64 0), (.int .i64 0), (.list 0 (some true) [])] [(0, (1, (.v (.k (.c (.int .i64 6)))))), (1, (3, (.t 22)))])⟩, ⟨none, (.bslice 24 52 4 [(.int .i64 0), (.int .i64 0), (.int .i64 0), (.list 0 (some true) [])] 2 [(0, (.t 21)), (1, (.t 23))])⟩, ⟨none, (.build 25 [(.str []), (.bool false), (.list 0 (some true) []), (.list 0 (some true) [])] [(2, (1, (.t 19))), (3, (1, (.t 24)))])⟩, ⟨none, (.store 4 (.t 0) (.t 25))⟩]
theorem uf22r1 : type_of% @f22r1.eq_1 := id @f22r1.eq_1
def f22b2 : AQ := (.seq (.region f22r1) (.frz 24 (.frz 19 .ret)))
theorem uf22b2 (P ts os Q) : awl P f22b2 Q ts os = awl P (.seq (.region f22r1) (.frz 24 (.frz 19 .ret))) Q ts os := id rfl
def f22r3 : List AI := [⟨none, (.load 14 3 true (.t 1))⟩, ⟨none, (.load 15 3 true (.t 2))⟩, ⟨none, (.bslice 16 50 3 [(.int .i64 0), (.int .i64 0), (.list 0 (some true) [])] 2 [(0, (.t 14)), (1, (.t 15))])⟩, ⟨none, (.build 17 [(.int .i64 0), (.int .i64 0), (.list 0 (some true) [])] [(0, (1, (.v (.k (.c (.int .i64 4)))))), (2, (1, (.t 16)))])⟩, ⟨none, (.alloc 5 50 [(.int .i64 0), (.int .i64 0), (.list 0 (some true) [])])⟩, ⟨none, (.store 3 (.t 5) (.t 17))⟩]
theorem uf22r3 : type_of% @f22r3.eq_1 := id @f22r3.eq_1
def f22b4 : AQ := (.seq (.region f22r3) (.frz 16 f22b2))
theorem uf22b4 (P ts os Q) : awl P f22b4 Q ts os = awl P (.seq (.region f22r3) (.frz 16 f22b2)) Q ts os := id rfl
def f22r5 : List AI := [⟨none, (.load 9 3 true (.t 3))⟩, ⟨none, (.build 10 [(.int .i64 0), (.int .i64 0), (.list 0 (some true) [])] [(1, (1, (.v (.k (.c (.int .i64 0))))))])⟩, ⟨none, (.build 11 [(.int .i64 0), (.int .i64 0), (.list 0 (some true) [])] [(1, (1, (.v (.k (.c (.int .i64 30000))))))])⟩, ⟨none, (.bslice 12 50 3 [(.int .i64 0), (.int .i64 0), (.list 0 (some true) [])] 3 [(0, (.t 9)), (1, (.t 10)), (2, (.t 11))])⟩, ⟨none, (.build 13 [(.int .i64 0), (.int .i64 0), (.list 0 (some true) [])] [(0, (1, (.v (.k (.c (.int .i64 6)))))), (2, (1, (.t 12)))])⟩, ⟨none, (.alloc 4 50 [(.int .i64 0), (.int .i64 0), (.list 0 (some true) [])])⟩, ⟨none, (.store 3 (.t 4) (.t 13))⟩]
theorem uf22r5 : type_of% @f22r5.eq_1 := id @f22r5.eq_1
def f22b6 : AQ := (.seq (.region f22r5) (.frz 12 f22b4))
theorem uf22b6 (P ts os Q) : awl P f22b6 Q ts os = awl P (.seq (.region f22r5) (.frz 12 f22b4)) Q ts os := id rfl
def f22r7 : List AI := [⟨none, (.build 8 [(.int .i64 0), (.int .i64 0), (.list 0 (some true) [])] [(0, (1, (.v (.k (.c (.int .i64 2)))))), (1, (1, (.v (.k (.c (.int .i64 10))))))])⟩, ⟨none, (.alloc 3 50 [(.int .i64 0), (.int .i64 0), (.list 0 (some true) [])])⟩, ⟨none, (.store 3 (.t 3) (.t 8))⟩]
theorem uf22r7 : type_of% @f22r7.eq_1 := id @f22r7.eq_1
def f22b8 : AQ := (.seq (.region f22r7) f22b6)
theorem uf22b8 (P ts os Q) : awl P f22b8 Q ts os = awl P (.seq (.region f22r7) f22b6) Q ts os := id rfl
def f22r9 : List AI := [⟨none, (.build 7 [(.int .i64 0), (.int .i64 0), (.list 0 (some true) [])] [(0, (1, (.v (.k (.c (.int .i64 2)))))), (1, (1, (.v (.k (.c (.int .i64 17))))))])⟩, ⟨none, (.alloc 2 50 [(.int .i64 0), (.int .i64 0), (.list 0 (some true) [])])⟩, ⟨none, (.store 3 (.t 2) (.t 7))⟩]
theorem uf22r9 : type_of% @f22r9.eq_1 := id @f22r9.eq_1
def f22b10 : AQ := (.seq (.region f22r9) f22b8)
theorem uf22b10 (P ts os Q) : awl P f22b10 Q ts os = awl P (.seq (.region f22r9) f22b8) Q ts os := id rfl
def f22r11 : List AI := [⟨none, (.build 6 [(.int .i64 0), (.int .i64 0), (.list 0 (some true) [])] [(0, (1, (.v (.k (.c (.int .i64 2)))))), (1, (1, (.v (.k (.c (.int .i64 15))))))])⟩, ⟨none, (.alloc 1 50 [(.int .i64 0), (.int .i64 0), (.list 0 (some true) [])])⟩, ⟨none, (.store 3 (.t 1) (.t 6))⟩]
theorem uf22r11 : type_of% @f22r11.eq_1 := id @f22r11.eq_1
def f22b12 : AQ := (.seq (.region f22r11) f22b10)
theorem uf22b12 (P ts os Q) : awl P f22b12 Q ts os = awl P (.seq (.region f22r11) f22b10) Q ts os := id rfl
def f22r13 : List AI := [⟨none, (.alloc 0 25 [(.str []), (.bool false), (.list 0 (some true) []), (.list 0 (some true) [])])⟩]
theorem uf22r13 : type_of% @f22r13.eq_1 := id @f22r13.eq_1
def f22b14 : AQ := (.seq (.region f22r13) f22b12)
theorem uf22b14 (P ts os Q) : awl P f22b14 Q ts os = awl P (.seq (.region f22r13) f22b12) Q ts os := id rfl
def f22 : AQ := f22b14
theorem uf22 (P ts os Q) : awl P f22 Q ts os = awl P f22b14 Q ts os := id rfl
theorem hf22 : cFunc Tryd.prog 22 = some ⟨26, f22.erase, [(RX.cell 0 4 true)]⟩ := by kernel_rfl
theorem okf22 : f22.ok = true := by kernel_rfl
def f23r1 : List AI := [⟨none, (.mov 12 (.t 5))⟩, ⟨none, (.mov 4 (.t 12))⟩]
theorem uf23r1 : type_of% @f23r1.eq_1 := id @f23r1.eq_1
def f23b2 : AQ := (.seq (.region f23r1) .ret)
theorem uf23b2 (P ts os Q) : awl P f23b2 Q ts os = awl P (.seq (.region f23r1) .ret) Q ts os := id rfl
def f23r3 : List AI := [⟨none, (.mov 7 (.t 5))⟩, ⟨none, (.mov 8 (.t 0))⟩, ⟨none, (.mov 9 (.t 1))⟩, ⟨none, (.build 10 [(.bool false), (.int .i64 0)] [(0, (1, (.v (.k (.c (.bool true)))))), (1, (1, (.t 9)))])⟩, ⟨none, (.iaddr 11 2 (.t 7) (.t 8))⟩, ⟨none, (.store 2 (.t 11) (.t 10))⟩]
theorem uf23r3 : type_of% @f23r3.eq_1 := id @f23r3.eq_1
def f23b4 : AQ := (.seq (.region f23r3) f23b2)
theorem uf23b4 (P ts os Q) : awl P f23b4 Q ts os = awl P (.seq (.region f23r3) f23b2) Q ts os := id rfl
def f23r5 : List AI := [⟨none, (.mkslice 6 30 2 16 [(.bool false), (.int .i64 0)] (.v (.k (.c (.int .i64 20)))) (.v (.k (.c (.int .i64 20)))))⟩, ⟨none, (.mov 5 (.t 6))⟩]
theorem uf23r5 : type_of% @f23r5.eq_1 := id @f23r5.eq_1
def f23b6 : AQ := (.seq (.region f23r5) f23b4)
theorem uf23b6 (P ts os Q) : awl P f23b6 Q ts os = awl P (.seq (.region f23r5) f23b4) Q ts os := id rfl
def f23r7 : List AI := [⟨none, (.nilL 4 30 2)⟩]
theorem uf23r7 : type_of% @f23r7.eq_1 := id @f23r7.eq_1
def f23b8 : AQ := (.seq (.region f23r7) f23b6)
theorem uf23b8 (P ts os Q) : awl P f23b8 Q ts os = awl P (.seq (.region f23r7) f23b6) Q ts os := id rfl
def f23 : AQ := f23b8
theorem uf23 (P ts os Q) : awl P f23 Q ts os = awl P f23b8 Q ts os := id rfl
theorem hf23 : cFunc Tryd.prog 23 = some ⟨13, f23.erase, [(RX.t 4)]⟩ := by kernel_rfl
theorem okf23 : f23.ok = true := by kernel_rfl
def f24r1 : List AI := [⟨none, (.load 3 3 true (.t 1))⟩, ⟨none, (.call (some 4) 36 [(.t 3), (.v (.k (.c (.int .i64 100)))), (.v (.k (.c (.int .i64 20))))])⟩, ⟨none, (.bin 5 .geq (.t 4) (.v (.k (.c (.int .i64 0)))))⟩, ⟨none, (.mov 2 (.t 5))⟩]
theorem uf24r1 : type_of% @f24r1.eq_1 := id @f24r1.eq_1
def f24b2 : AQ := (.seq (.region f24r1) .ret)
theorem uf24b2 (P ts os Q) : awl P f24b2 Q ts os = awl P (.seq (.region f24r1) .ret) Q ts os := id rfl
def f24r3 : List AI := [⟨none, (.box 1 50 (.t 0))⟩, ⟨none, (.mov 2 (.v (.k (.c (.bool false)))))⟩]
theorem uf24r3 : type_of% @f24r3.eq_1 := id @f24r3.eq_1
def f24b4 : AQ := (.seq (.region f24r3) f24b2)
theorem uf24b4 (P ts os Q) : awl P f24b4 Q ts os = awl P (.seq (.region f24r3) f24b2) Q ts os := id rfl
def f24 : AQ := f24b4
theorem uf24 (P ts os Q) : awl P f24 Q ts os = awl P f24b4 Q ts os := id rfl
theorem hf24 : cFunc Tryd.prog 24 = some ⟨6, f24.erase, [(RX.t 2)]⟩ := by kernel_rfl
theorem okf24 : f24.ok = true := by kernel_rfl
def f25r1 : List AI := [⟨none, (.load 46 3 true (.t 9))⟩, ⟨none, (.store 3 (.t 4) (.t 46))⟩, ⟨none, (.mov 5 (.v (.k (.c (.int .i64 0)))))⟩]
theorem uf25r1 : type_of% @f25r1.eq_1 := id @f25r1.eq_1
def f25b2 : AQ := (.seq (.region f25r1) .ret)
theorem uf25b2 (P ts os Q) : awl P f25b2 Q ts os = awl P (.seq (.region f25r1) .ret) Q ts os := id rfl
def f25r3 : List AI := [⟨none, (.build 45 [(.int .i64 0), (.int .i64 0), (.list 0 (some true) [])] [])⟩, ⟨none, (.store 3 (.t 4) (.t 45))⟩, ⟨none, (.mov 5 (.v (.k (.c (.int .i64 11)))))⟩]
theorem uf25r3 : type_of% @f25r3.eq_1 := id @f25r3.eq_1
def f25b4 : AQ := (.seq (.region f25r3) .ret)
theorem uf25b4 (P ts os Q) : awl P f25b4 Q ts os = awl P (.seq (.region f25r3) .ret) Q ts os := id rfl
def f25b5 : AQ := (.cond (.t 44) f25b4 .skip)
theorem uf25b5 (P ts os Q) : awl P f25b5 Q ts os = awl P (.cond (.t 44) f25b4 .skip) Q ts os := id rfl
def f25r6 : List AI := [⟨none, (.mov 38 (.t 11))⟩, ⟨none, (.bin 39 .neq (.t 38) (.v (.k (.c (.int .i64 0)))))⟩, ⟨none, (.mov 40 (.t 39))⟩, ⟨(some (40, false)), (.mov 41 (.t 10))⟩, ⟨(some (40, false)), (.mov 42 (.t 6))⟩, ⟨(some (40, false)), (.bin 43 .neq (.t 41) (.t 42))⟩, ⟨none, (.pick 44 (.t 40) (.v (.k (.c (.bool true)))) (.t 43))⟩]
theorem uf25r6 : type_of% @f25r6.eq_1 := id @f25r6.eq_1
def f25b7 : AQ := (.seq (.region f25r6) f25b5)
theorem uf25b7 (P ts os Q) : awl P f25b7 Q ts os = awl P (.seq (.region f25r6) f25b5) Q ts os := id rfl
def f25r8 : List AI := [⟨none, (.load 34 3 true (.t 9))⟩, ⟨none, (.call (some 35) 39 [(.t 34)])⟩, ⟨none, (.mov 33 (.t 35))⟩, ⟨none, (.extr 36 (.t 33) 0)⟩, ⟨none, (.extr 37 (.t 33) 1)⟩, ⟨none, (.mov 10 (.t 36))⟩, ⟨none, (.mov 11 (.t 37))⟩]
theorem uf25r8 : type_of% @f25r8.eq_1 := id @f25r8.eq_1
def f25b9 : AQ := (.seq (.region f25r8) f25b7)
theorem uf25b9 (P ts os Q) : awl P f25b9 Q ts os = awl P (.seq (.region f25r8) f25b7) Q ts os := id rfl
def f25b10 : AQ := (.seq f25b9 f25b2)
theorem uf25b10 (P ts os Q) : awl P f25b10 Q ts os = awl P (.seq f25b9 f25b2) Q ts os := id rfl
def f25r11 : List AI := [⟨none, (.faddr 27 3 (.t 2))⟩, ⟨none, (.load 28 1 false (.t 27))⟩, ⟨none, (.mov 29 (.t 8))⟩, ⟨none, (.iaddr 30 4 (.t 28) (.t 29))⟩, ⟨none, (.faddr 31 1 (.t 30))⟩, ⟨none, (.load 32 3 true (.t 31))⟩, ⟨none, (.alloc 9 50 [(.int .i64 0), (.int .i64 0), (.list 0 (some true) [])])⟩, ⟨none, (.store 3 (.t 9) (.t 32))⟩]
theorem uf25r11 : type_of% @f25r11.eq_1 := id @f25r11.eq_1
def f25b12 : AQ := (.seq (.region f25r11) f25b10)
theorem uf25b12 (P ts os Q) : awl P f25b12 Q ts os = awl P (.seq (.region f25r11) f25b10) Q ts os := id rfl
def f25r13 : List AI := [⟨none, (.build 26 [(.int .i64 0), (.int .i64 0), (.list 0 (some true) [])] [])⟩, ⟨none, (.store 3 (.t 4) (.t 26))⟩, ⟨none, (.mov 5 (.v (.k (.c (.int .i64 4)))))⟩]
theorem uf25r13 : type_of% @f25r13.eq_1 := id @f25r13.eq_1
def f25b14 : AQ := (.seq (.region f25r13) .ret)
theorem uf25b14 (P ts os Q) : awl P f25b14 Q ts os = awl P (.seq (.region f25r13) .ret) Q ts os := id rfl
def f25b15 : AQ := (.cond (.t 25) f25b14 .skip)
theorem uf25b15 (P ts os Q) : awl P f25b15 Q ts os = awl P (.cond (.t 25) f25b14 .skip) Q ts os := id rfl
def f25r16 : List AI := [⟨none, (.mov 24 (.t 8))⟩, ⟨none, (.bin 25 .lss (.t 24) (.v (.k (.c (.int .i64 0)))))⟩]
theorem uf25r16 : type_of% @f25r16.eq_1 := id @f25r16.eq_1
def f25b17 : AQ := (.seq (.region f25r16) f25b15)
theorem uf25b17 (P ts os Q) : awl P f25b17 Q ts os = awl P (.seq (.region f25r16) f25b15) Q ts os := id rfl
def f25b18 : AQ := (.seq f25b17 f25b12)
theorem uf25b18 (P ts os Q) : awl P f25b18 Q ts os = awl P (.seq f25b17 f25b12) Q ts os := id rfl
def f25r19 : List AI := [⟨none, (.faddr 20 3 (.t 2))⟩, ⟨none, (.load 21 1 false (.t 20))⟩, ⟨none, (.mkfn 22 38 [(.t 3)])⟩, ⟨none, (.call (some 23) 37 [(.t 21), (.t 22)])⟩, ⟨none, (.mov 8 (.t 23))⟩]
theorem uf25r19 : type_of% @f25r19.eq_1 := id @f25r19.eq_1
def f25b20 : AQ := (.seq (.region f25r19) f25b18)
theorem uf25b20 (P ts os Q) : awl P f25b20 Q ts os = awl P (.seq (.region f25r19) f25b18) Q ts os := id rfl
def f25r21 : List AI := [⟨none, (.build 19 [(.int .i64 0), (.int .i64 0), (.list 0 (some true) [])] [])⟩, ⟨none, (.store 3 (.t 4) (.t 19))⟩, ⟨none, (.mov 5 (.v (.k (.c (.int .i64 1)))))⟩]
theorem uf25r21 : type_of% @f25r21.eq_1 := id @f25r21.eq_1
def f25b22 : AQ := (.seq (.region f25r21) .ret)
theorem uf25b22 (P ts os Q) : awl P f25b22 Q ts os = awl P (.seq (.region f25r21) .ret) Q ts os := id rfl
def f25b23 : AQ := (.cond (.t 18) f25b22 .skip)
theorem uf25b23 (P ts os Q) : awl P f25b23 Q ts os = awl P (.cond (.t 18) f25b22 .skip) Q ts os := id rfl
def f25r24 : List AI := [⟨none, (.mov 17 (.t 7))⟩, ⟨none, (.un 18 .not (.t 17))⟩]
theorem uf25r24 : type_of% @f25r24.eq_1 := id @f25r24.eq_1
def f25b25 : AQ := (.seq (.region f25r24) f25b23)
theorem uf25b25 (P ts os Q) : awl P f25b25 Q ts os = awl P (.seq (.region f25r24) f25b23) Q ts os := id rfl
def f25b26 : AQ := (.seq f25b25 f25b20)
theorem uf25b26 (P ts os Q) : awl P f25b26 Q ts os = awl P (.seq f25b25 f25b20) Q ts os := id rfl
def f25r27 : List AI := [⟨none, (.load 13 1 false (.t 3))⟩, ⟨none, (.call (some 14) 13 [(.t 13)])⟩, ⟨none, (.mov 12 (.t 14))⟩, ⟨none, (.extr 15 (.t 12) 0)⟩, ⟨none, (.extr 16 (.t 12) 1)⟩, ⟨none, (.mov 6 (.t 15))⟩, ⟨none, (.mov 7 (.t 16))⟩]
theorem uf25r27 : type_of% @f25r27.eq_1 := id @f25r27.eq_1
def f25b28 : AQ := (.seq (.region f25r27) f25b26)
theorem uf25b28 (P ts os Q) : awl P f25b28 Q ts os = awl P (.seq (.region f25r27) f25b26) Q ts os := id rfl
def f25r29 : List AI := [⟨none, (.box 2 25 (.t 0))⟩, ⟨none, (.box 3 3 (.t 1))⟩, ⟨none, (.alloc 4 50 [(.int .i64 0), (.int .i64 0), (.list 0 (some true) [])])⟩, ⟨none, (.mov 5 (.v (.k (.c (.int .i64 0)))))⟩]
theorem uf25r29 : type_of% @f25r29.eq_1 := id @f25r29.eq_1
def f25b30 : AQ := (.seq (.region f25r29) f25b28)
theorem uf25b30 (P ts os Q) : awl P f25b30 Q ts os = awl P (.seq (.region f25r29) f25b28) Q ts os := id rfl
def f25 : AQ := f25b30
theorem uf25 (P ts os Q) : awl P f25 Q ts os = awl P f25b30 Q ts os := id rfl
theorem hf25 : cFunc Tryd.prog 25 = some ⟨47, f25.erase, [(RX.cell 4 3 true), (RX.t 5)]⟩ := by kernel_rfl
theorem okf25 : f25.ok = true := by kernel_rfl
def f26r1 : List AI := [⟨none, (.load 24 2 true (.t 7))⟩, ⟨none, (.store 2 (.t 4) (.t 24))⟩]
theorem uf26r1 : type_of% @f26r1.eq_1 := id @f26r1.eq_1
def f26b2 : AQ := (.seq (.region f26r1) .ret)
theorem uf26b2 (P ts os Q) : awl P f26b2 Q ts os = awl P (.seq (.region f26r1) .ret) Q ts os := id rfl
def f26r3 : List AI := [⟨none, (.mov 18 (.t 1))⟩, ⟨none, (.build 19 [(.list 0 (some true) [])] [(0, (1, (.t 18)))])⟩, ⟨none, (.load 20 3 true (.t 2))⟩, ⟨none, (.call (some 21) 40 [(.t 19), (.t 20)])⟩, ⟨none, (.mov 17 (.t 21))⟩, ⟨none, (.extr 22 (.t 17) 0)⟩, ⟨none, (.extr 23 (.t 17) 1)⟩, ⟨none, (.alloc 7 30 [(.bool false), (.int .i64 0)])⟩, ⟨none, (.store 2 (.t 7) (.t 22))⟩, ⟨none, (.mov 8 (.t 23))⟩]
theorem uf26r3 : type_of% @f26r3.eq_1 := id @f26r3.eq_1
def f26b4 : AQ := (.seq (.region f26r3) f26b2)
theorem uf26b4 (P ts os Q) : awl P f26b4 Q ts os = awl P (.seq (.region f26r3) f26b2) Q ts os := id rfl
def f26r5 : List AI := [⟨none, (.build 16 [(.bool false), (.int .i64 0)] [])⟩, ⟨none, (.store 2 (.t 4) (.t 16))⟩]
theorem uf26r5 : type_of% @f26r5.eq_1 := id @f26r5.eq_1
def f26b6 : AQ := (.seq (.region f26r5) .ret)
theorem uf26b6 (P ts os Q) : awl P f26b6 Q ts os = awl P (.seq (.region f26r5) .ret) Q ts os := id rfl
def f26b7 : AQ := (.cond (.t 15) f26b6 .skip)
theorem uf26b7 (P ts os Q) : awl P f26b7 Q ts os = awl P (.cond (.t 15) f26b6 .skip) Q ts os := id rfl
def f26r8 : List AI := [⟨none, (.mov 14 (.t 6))⟩, ⟨none, (.bin 15 .neq (.t 14) (.v (.k (.c (.int .i64 0)))))⟩]
theorem uf26r8 : type_of% @f26r8.eq_1 := id @f26r8.eq_1
def f26b9 : AQ := (.seq (.region f26r8) f26b7)
theorem uf26b9 (P ts os Q) : awl P f26b9 Q ts os = awl P (.seq (.region f26r8) f26b7) Q ts os := id rfl
def f26r10 : List AI := [⟨none, (.load 10 3 true (.t 2))⟩, ⟨none, (.call (some 11) 39 [(.t 10)])⟩, ⟨none, (.mov 9 (.t 11))⟩, ⟨none, (.extr 12 (.t 9) 0)⟩, ⟨none, (.extr 13 (.t 9) 1)⟩, ⟨none, (.mov 5 (.t 12))⟩, ⟨none, (.mov 6 (.t 13))⟩]
theorem uf26r10 : type_of% @f26r10.eq_1 := id @f26r10.eq_1
def f26b11 : AQ := (.seq (.region f26r10) f26b9)
theorem uf26b11 (P ts os Q) : awl P f26b11 Q ts os = awl P (.seq (.region f26r10) f26b9) Q ts os := id rfl
def f26b12 : AQ := (.seq f26b11 f26b4)
theorem uf26b12 (P ts os Q) : awl P f26b12 Q ts os = awl P (.seq f26b11 f26b4) Q ts os := id rfl
def f26r13 : List AI := [⟨none, (.box 2 50 (.t 0))⟩, ⟨none, (.alloc 4 30 [(.bool false), (.int .i64 0)])⟩]
theorem uf26r13 : type_of% @f26r13.eq_1 := id @f26r13.eq_1
def f26b14 : AQ := (.seq (.region f26r13) f26b12)
theorem uf26b14 (P ts os Q) : awl P f26b14 Q ts os = awl P (.seq (.region f26r13) f26b12) Q ts os := id rfl
def f26 : AQ := f26b14
theorem uf26 (P ts os Q) : awl P f26 Q ts os = awl P f26b14 Q ts os := id rfl
theorem hf26 : cFunc Tryd.prog 26 = some ⟨25, f26.erase, [(RX.cell 4 2 true)]⟩ := by kernel_rfl
theorem okf26 : f26.ok = true := by kernel_rfl
def f27r1 : List AI := [⟨none, (.mov 4 (.v (.k (.c (.int .i64 0)))))⟩]
theorem uf27r1 : type_of% @f27r1.eq_1 := id @f27r1.eq_1
def f27b2 : AQ := (.seq (.region f27r1) .ret)
theorem uf27b2 (P ts os Q) : awl P f27b2 Q ts os = awl P (.seq (.region f27r1) .ret) Q ts os := id rfl
def f27r3 : List AI := [⟨none, (.mov 4 (.v (.k (.c (.int .i64 11)))))⟩]
theorem uf27r3 : type_of% @f27r3.eq_1 := id @f27r3.eq_1
def f27b4 : AQ := (.seq (.region f27r3) .ret)
theorem uf27b4 (P ts os Q) : awl P f27b4 Q ts os = awl P (.seq (.region f27r3) .ret) Q ts os := id rfl
def f27b5 : AQ := (.cond (.t 39) f27b4 .skip)
theorem uf27b5 (P ts os Q) : awl P f27b5 Q ts os = awl P (.cond (.t 39) f27b4 .skip) Q ts os := id rfl
def f27r6 : List AI := [⟨none, (.mov 33 (.t 7))⟩, ⟨none, (.bin 34 .neq (.t 33) (.v (.k (.c (.int .i64 0)))))⟩, ⟨none, (.mov 35 (.t 34))⟩, ⟨(some (35, false)), (.mov 36 (.t 6))⟩, ⟨(some (35, false)), (.mov 37 (.t 8))⟩, ⟨(some (35, false)), (.bin 38 .neq (.t 36) (.t 37))⟩, ⟨none, (.pick 39 (.t 35) (.v (.k (.c (.bool true)))) (.t 38))⟩]
theorem uf27r6 : type_of% @f27r6.eq_1 := id @f27r6.eq_1
def f27b7 : AQ := (.seq (.region f27r6) f27b5)
theorem uf27b7 (P ts os Q) : awl P f27b7 Q ts os = awl P (.seq (.region f27r6) f27b5) Q ts os := id rfl
def f27b8 : AQ := (.seq f27b7 f27b2)
theorem uf27b8 (P ts os Q) : awl P f27b8 Q ts os = awl P (.seq f27b7 f27b2) Q ts os := id rfl
def f27r9 : List AI := [⟨none, (.mov 29 (.t 1))⟩, ⟨none, (.call (some 30) 14 [(.t 29)])⟩, ⟨none, (.mov 28 (.t 30))⟩, ⟨none, (.extr 31 (.t 28) 0)⟩, ⟨none, (.extr 32 (.t 28) 1)⟩, ⟨none, (.mov 8 (.t 31))⟩, ⟨none, (.mov 9 (.t 32))⟩]
theorem uf27r9 : type_of% @f27r9.eq_1 := id @f27r9.eq_1
def f27b10 : AQ := (.seq (.region f27r9) f27b8)
theorem uf27b10 (P ts os Q) : awl P f27b10 Q ts os = awl P (.seq (.region f27r9) f27b8) Q ts os := id rfl
def f27r11 : List AI := [⟨none, (.faddr 19 3 (.t 2))⟩, ⟨none, (.load 20 1 false (.t 19))⟩, ⟨none, (.mov 21 (.t 5))⟩, ⟨none, (.iaddr 22 4 (.t 20) (.t 21))⟩, ⟨none, (.faddr 23 1 (.t 22))⟩, ⟨none, (.load 24 3 true (.t 23))⟩, ⟨none, (.call (some 25) 41 [(.t 24)])⟩, ⟨none, (.mov 18 (.t 25))⟩, ⟨none, (.extr 26 (.t 18) 0)⟩, ⟨none, (.extr 27 (.t 18) 1)⟩, ⟨none, (.mov 6 (.t 26))⟩, ⟨none, (.mov 7 (.t 27))⟩]
theorem uf27r11 : type_of% @f27r11.eq_1 := id @f27r11.eq_1
def f27b12 : AQ := (.seq (.region f27r11) f27b10)
theorem uf27b12 (P ts os Q) : awl P f27b12 Q ts os = awl P (.seq (.region f27r11) f27b10) Q ts os := id rfl
def f27r13 : List AI := [⟨none, (.mov 4 (.v (.k (.c (.int .i64 4)))))⟩]
theorem uf27r13 : type_of% @f27r13.eq_1 := id @f27r13.eq_1
def f27b14 : AQ := (.seq (.region f27r13) .ret)
theorem uf27b14 (P ts os Q) : awl P f27b14 Q ts os = awl P (.seq (.region f27r13) .ret) Q ts os := id rfl
def f27b15 : AQ := (.cond (.t 17) f27b14 .skip)
theorem uf27b15 (P ts os Q) : awl P f27b15 Q ts os = awl P (.cond (.t 17) f27b14 .skip) Q ts os := id rfl
def f27r16 : List AI := [⟨none, (.mov 16 (.t 5))⟩, ⟨none, (.bin 17 .lss (.t 16) (.v (.k (.c (.int .i64 0)))))⟩]
theorem uf27r16 : type_of% @f27r16.eq_1 := id @f27r16.eq_1
def f27b17 : AQ := (.seq (.region f27r16) f27b15)
theorem uf27b17 (P ts os Q) : awl P f27b17 Q ts os = awl P (.seq (.region f27r16) f27b15) Q ts os := id rfl
def f27b18 : AQ := (.seq f27b17 f27b12)
theorem uf27b18 (P ts os Q) : awl P f27b18 Q ts os = awl P (.seq f27b17 f27b12) Q ts os := id rfl
def f27r19 : List AI := [⟨none, (.load 13 4 true (.t 2))⟩, ⟨none, (.mov 14 (.t 1))⟩, ⟨none, (.call (some 15) 21 [(.t 13), (.t 14)])⟩, ⟨none, (.mov 5 (.t 15))⟩]
theorem uf27r19 : type_of% @f27r19.eq_1 := id @f27r19.eq_1
def f27b20 : AQ := (.seq (.region f27r19) f27b18)
theorem uf27b20 (P ts os Q) : awl P f27b20 Q ts os = awl P (.seq (.region f27r19) f27b18) Q ts os := id rfl
def f27r21 : List AI := [⟨none, (.mov 4 (.v (.k (.c (.int .i64 1)))))⟩]
theorem uf27r21 : type_of% @f27r21.eq_1 := id @f27r21.eq_1
def f27b22 : AQ := (.seq (.region f27r21) .ret)
theorem uf27b22 (P ts os Q) : awl P f27b22 Q ts os = awl P (.seq (.region f27r21) .ret) Q ts os := id rfl
def f27b23 : AQ := (.cond (.t 12) f27b22 .skip)
theorem uf27b23 (P ts os Q) : awl P f27b23 Q ts os = awl P (.cond (.t 12) f27b22 .skip) Q ts os := id rfl
def f27r24 : List AI := [⟨none, (.mov 10 (.t 1))⟩, ⟨none, (.call (some 11) 30 [(.t 10)])⟩, ⟨none, (.un 12 .not (.t 11))⟩]
theorem uf27r24 : type_of% @f27r24.eq_1 := id @f27r24.eq_1
def f27b25 : AQ := (.seq (.region f27r24) f27b23)
theorem uf27b25 (P ts os Q) : awl P f27b25 Q ts os = awl P (.seq (.region f27r24) f27b23) Q ts os := id rfl
def f27b26 : AQ := (.seq f27b25 f27b20)
theorem uf27b26 (P ts os Q) : awl P f27b26 Q ts os = awl P (.seq f27b25 f27b20) Q ts os := id rfl
def f27r27 : List AI := [⟨none, (.box 2 25 (.t 0))⟩, ⟨none, (.mov 4 (.v (.k (.c (.int .i64 0)))))⟩]
theorem uf27r27 : type_of% @f27r27.eq_1 := id @f27r27.eq_1
def f27b28 : AQ := (.seq (.region f27r27) f27b26)
theorem uf27b28 (P ts os Q) : awl P f27b28 Q ts os = awl P (.seq (.region f27r27) f27b26) Q ts os := id rfl
def f27 : AQ := f27b28
theorem uf27 (P ts os Q) : awl P f27 Q ts os = awl P f27b28 Q ts os := id rfl
theorem hf27 : cFunc Tryd.prog 27 = some ⟨40, f27.erase, [(RX.t 4)]⟩ := by kernel_rfl
theorem okf27 : f27.ok = true := by kernel_rfl
def f28r1 : List AI := [⟨none, (.load 15 3 true (.t 2))⟩, ⟨none, (.mov 16 (.t 1))⟩, ⟨none, (.call (some 17) 42 [(.t 15), (.t 16)])⟩, ⟨none, (.store 2 (.t 4) (.t 17))⟩]
theorem uf28r1 : type_of% @f28r1.eq_1 := id @f28r1.eq_1
def f28b2 : AQ := (.seq (.region f28r1) .ret)
theorem uf28b2 (P ts os Q) : awl P f28b2 Q ts os = awl P (.seq (.region f28r1) .ret) Q ts os := id rfl
def f28r3 : List AI := [⟨none, (.build 14 [(.bool false), (.int .i64 0)] [])⟩, ⟨none, (.store 2 (.t 4) (.t 14))⟩]
theorem uf28r3 : type_of% @f28r3.eq_1 := id @f28r3.eq_1
def f28b4 : AQ := (.seq (.region f28r3) .ret)
theorem uf28b4 (P ts os Q) : awl P f28b4 Q ts os = awl P (.seq (.region f28r3) .ret) Q ts os := id rfl
def f28b5 : AQ := (.cond (.t 13) f28b4 .skip)
theorem uf28b5 (P ts os Q) : awl P f28b5 Q ts os = awl P (.cond (.t 13) f28b4 .skip) Q ts os := id rfl
def f28r6 : List AI := [⟨none, (.mov 12 (.t 6))⟩, ⟨none, (.bin 13 .neq (.t 12) (.v (.k (.c (.int .i64 0)))))⟩]
theorem uf28r6 : type_of% @f28r6.eq_1 := id @f28r6.eq_1
def f28b7 : AQ := (.seq (.region f28r6) f28b5)
theorem uf28b7 (P ts os Q) : awl P f28b7 Q ts os = awl P (.seq (.region f28r6) f28b5) Q ts os := id rfl
def f28b8 : AQ := (.seq f28b7 f28b2)
theorem uf28b8 (P ts os Q) : awl P f28b8 Q ts os = awl P (.seq f28b7 f28b2) Q ts os := id rfl
def f28r9 : List AI := [⟨none, (.load 8 3 true (.t 2))⟩, ⟨none, (.call (some 9) 41 [(.t 8)])⟩, ⟨none, (.mov 7 (.t 9))⟩, ⟨none, (.extr 10 (.t 7) 0)⟩, ⟨none, (.extr 11 (.t 7) 1)⟩, ⟨none, (.mov 5 (.t 10))⟩, ⟨none, (.mov 6 (.t 11))⟩]
theorem uf28r9 : type_of% @f28r9.eq_1 := id @f28r9.eq_1
def f28b10 : AQ := (.seq (.region f28r9) f28b8)
theorem uf28b10 (P ts os Q) : awl P f28b10 Q ts os = awl P (.seq (.region f28r9) f28b8) Q ts os := id rfl
def f28r11 : List AI := [⟨none, (.box 2 50 (.t 0))⟩, ⟨none, (.alloc 4 30 [(.bool false), (.int .i64 0)])⟩]
theorem uf28r11 : type_of% @f28r11.eq_1 := id @f28r11.eq_1
def f28b12 : AQ := (.seq (.region f28r11) f28b10)
theorem uf28b12 (P ts os Q) : awl P f28b12 Q ts os = awl P (.seq (.region f28r11) f28b10) Q ts os := id rfl
def f28 : AQ := f28b12
theorem uf28 (P ts os Q) : awl P f28 Q ts os = awl P f28b12 Q ts os := id rfl
theorem hf28 : cFunc Tryd.prog 28 = some ⟨18, f28.erase, [(RX.cell 4 2 true)]⟩ := by kernel_rfl
theorem okf28 : f28.ok = true := by kernel_rfl
def f29r1 : List AI := [⟨none, (.mov 15 (.t 0))⟩, ⟨none, (.call (some 16) 43 [(.t 15), (.v (.k (.c (.int .i64 0)))), (.v (.k (.c (.int .i64 21))))])⟩, ⟨none, (.mov 2 (.t 16))⟩]
theorem uf29r1 : type_of% @f29r1.eq_1 := id @f29r1.eq_1
def f29b2 : AQ := (.seq (.region f29r1) .ret)
theorem uf29b2 (P ts os Q) : awl P f29b2 Q ts os = awl P (.seq (.region f29r1) .ret) Q ts os := id rfl
def f29r3 : List AI := [⟨none, (.mov 2 (.v (.k (.c (.bool false)))))⟩]
theorem uf29r3 : type_of% @f29r3.eq_1 := id @f29r3.eq_1
def f29b4 : AQ := (.seq (.region f29r3) .ret)
theorem uf29b4 (P ts os Q) : awl P f29b4 Q ts os = awl P (.seq (.region f29r3) .ret) Q ts os := id rfl
def f29b5 : AQ := (.cond (.t 4) f29b4 .skip)
theorem uf29b5 (P ts os Q) : awl P f29b5 Q ts os = awl P (.cond (.t 4) f29b4 .skip) Q ts os := id rfl
def f29r6 : List AI := [⟨none, (.bin 14 .eql (.t 3) (.v (.k (.c (.int .i64 21)))))⟩, ⟨none, (.mov 4 (.t 14))⟩]
theorem uf29r6 : type_of% @f29r6.eq_1 := id @f29r6.eq_1
def f29b7 : AQ := (.cond (.t 4) .skip (.region f29r6))
theorem uf29b7 (P ts os Q) : awl P f29b7 Q ts os = awl P (.cond (.t 4) .skip (.region f29r6)) Q ts os := id rfl
def f29r8 : List AI := [⟨none, (.bin 13 .eql (.t 3) (.v (.k (.c (.int .i64 20)))))⟩, ⟨none, (.mov 4 (.t 13))⟩]
theorem uf29r8 : type_of% @f29r8.eq_1 := id @f29r8.eq_1
def f29b9 : AQ := (.seq (.region f29r8) f29b7)
theorem uf29b9 (P ts os Q) : awl P f29b9 Q ts os = awl P (.seq (.region f29r8) f29b7) Q ts os := id rfl
def f29b10 : AQ := (.cond (.t 4) .skip f29b9)
theorem uf29b10 (P ts os Q) : awl P f29b10 Q ts os = awl P (.cond (.t 4) .skip f29b9) Q ts os := id rfl
def f29r11 : List AI := [⟨none, (.bin 12 .eql (.t 3) (.v (.k (.c (.int .i64 16)))))⟩, ⟨none, (.mov 4 (.t 12))⟩]
theorem uf29r11 : type_of% @f29r11.eq_1 := id @f29r11.eq_1
def f29b12 : AQ := (.seq (.region f29r11) f29b10)
theorem uf29b12 (P ts os Q) : awl P f29b12 Q ts os = awl P (.seq (.region f29r11) f29b10) Q ts os := id rfl
def f29b13 : AQ := (.cond (.t 4) .skip f29b12)
theorem uf29b13 (P ts os Q) : awl P f29b13 Q ts os = awl P (.cond (.t 4) .skip f29b12) Q ts os := id rfl
def f29r14 : List AI := [⟨none, (.bin 11 .eql (.t 3) (.v (.k (.c (.int .i64 15)))))⟩, ⟨none, (.mov 4 (.t 11))⟩]
theorem uf29r14 : type_of% @f29r14.eq_1 := id @f29r14.eq_1
def f29b15 : AQ := (.seq (.region f29r14) f29b13)
theorem uf29b15 (P ts os Q) : awl P f29b15 Q ts os = awl P (.seq (.region f29r14) f29b13) Q ts os := id rfl
def f29b16 : AQ := (.cond (.t 4) .skip f29b15)
theorem uf29b16 (P ts os Q) : awl P f29b16 Q ts os = awl P (.cond (.t 4) .skip f29b15) Q ts os := id rfl
def f29r17 : List AI := [⟨none, (.bin 10 .eql (.t 3) (.v (.k (.c (.int .i64 14)))))⟩, ⟨none, (.mov 4 (.t 10))⟩]
theorem uf29r17 : type_of% @f29r17.eq_1 := id @f29r17.eq_1
def f29b18 : AQ := (.seq (.region f29r17) f29b16)
theorem uf29b18 (P ts os Q) : awl P f29b18 Q ts os = awl P (.seq (.region f29r17) f29b16) Q ts os := id rfl
def f29b19 : AQ := (.cond (.t 4) .skip f29b18)
theorem uf29b19 (P ts os Q) : awl P f29b19 Q ts os = awl P (.cond (.t 4) .skip f29b18) Q ts os := id rfl
def f29r20 : List AI := [⟨none, (.bin 9 .eql (.t 3) (.v (.k (.c (.int .i64 13)))))⟩, ⟨none, (.mov 4 (.t 9))⟩]
theorem uf29r20 : type_of% @f29r20.eq_1 := id @f29r20.eq_1
def f29b21 : AQ := (.seq (.region f29r20) f29b19)
theorem uf29b21 (P ts os Q) : awl P f29b21 Q ts os = awl P (.seq (.region f29r20) f29b19) Q ts os := id rfl
def f29b22 : AQ := (.cond (.t 4) .skip f29b21)
theorem uf29b22 (P ts os Q) : awl P f29b22 Q ts os = awl P (.cond (.t 4) .skip f29b21) Q ts os := id rfl
def f29r23 : List AI := [⟨none, (.bin 8 .eql (.t 3) (.v (.k (.c (.int .i64 12)))))⟩, ⟨none, (.mov 4 (.t 8))⟩]
theorem uf29r23 : type_of% @f29r23.eq_1 := id @f29r23.eq_1
def f29b24 : AQ := (.seq (.region f29r23) f29b22)
theorem uf29b24 (P ts os Q) : awl P f29b24 Q ts os = awl P (.seq (.region f29r23) f29b22) Q ts os := id rfl
def f29b25 : AQ := (.cond (.t 4) .skip f29b24)
theorem uf29b25 (P ts os Q) : awl P f29b25 Q ts os = awl P (.cond (.t 4) .skip f29b24) Q ts os := id rfl
def f29r26 : List AI := [⟨none, (.bin 7 .eql (.t 3) (.v (.k (.c (.int .i64 10)))))⟩, ⟨none, (.mov 4 (.t 7))⟩]
theorem uf29r26 : type_of% @f29r26.eq_1 := id @f29r26.eq_1
def f29b27 : AQ := (.seq (.region f29r26) f29b25)
theorem uf29b27 (P ts os Q) : awl P f29b27 Q ts os = awl P (.seq (.region f29r26) f29b25) Q ts os := id rfl
def f29b28 : AQ := (.cond (.t 4) .skip f29b27)
theorem uf29b28 (P ts os Q) : awl P f29b28 Q ts os = awl P (.cond (.t 4) .skip f29b27) Q ts os := id rfl
def f29r29 : List AI := [⟨none, (.bin 6 .eql (.t 3) (.v (.k (.c (.int .i64 7)))))⟩, ⟨none, (.mov 4 (.t 6))⟩]
theorem uf29r29 : type_of% @f29r29.eq_1 := id @f29r29.eq_1
def f29b30 : AQ := (.seq (.region f29r29) f29b28)
theorem uf29b30 (P ts os Q) : awl P f29b30 Q ts os = awl P (.seq (.region f29r29) f29b28) Q ts os := id rfl
def f29b31 : AQ := (.cond (.t 4) .skip f29b30)
theorem uf29b31 (P ts os Q) : awl P f29b31 Q ts os = awl P (.cond (.t 4) .skip f29b30) Q ts os := id rfl
def f29r32 : List AI := [⟨none, (.bin 5 .eql (.t 3) (.v (.k (.c (.int .i64 6)))))⟩, ⟨none, (.mov 4 (.t 5))⟩]
theorem uf29r32 : type_of% @f29r32.eq_1 := id @f29r32.eq_1
def f29b33 : AQ := (.seq (.region f29r32) f29b31)
theorem uf29b33 (P ts os Q) : awl P f29b33 Q ts os = awl P (.seq (.region f29r32) f29b31) Q ts os := id rfl
def f29b34 : AQ := (.seq f29b33 f29b5)
theorem uf29b34 (P ts os Q) : awl P f29b34 Q ts os = awl P (.seq f29b33 f29b5) Q ts os := id rfl
def f29b35 : AQ := (.block 0 f29b34)
theorem uf29b35 (P ts os Q) : awl P f29b35 Q ts os = awl P (.block 0 f29b34) Q ts os := id rfl
def f29r36 : List AI := [⟨none, (.mov 3 (.t 0))⟩]
theorem uf29r36 : type_of% @f29r36.eq_1 := id @f29r36.eq_1
def f29b37 : AQ := (.seq (.region f29r36) f29b35)
theorem uf29b37 (P ts os Q) : awl P f29b37 Q ts os = awl P (.seq (.region f29r36) f29b35) Q ts os := id rfl
def f29b38 : AQ := (.seq f29b37 f29b2)
theorem uf29b38 (P ts os Q) : awl P f29b38 Q ts os = awl P (.seq f29b37 f29b2) Q ts os := id rfl
def f29r39 : List AI := [⟨none, (.mov 2 (.v (.k (.c (.bool false)))))⟩]
theorem uf29r39 : type_of% @f29r39.eq_1 := id @f29r39.eq_1
def f29b40 : AQ := (.seq (.region f29r39) f29b38)
theorem uf29b40 (P ts os Q) : awl P f29b40 Q ts os = awl P (.seq (.region f29r39) f29b38) Q ts os := id rfl
def f29 : AQ := f29b40
theorem uf29 (P ts os Q) : awl P f29 Q ts os = awl P f29b40 Q ts os := id rfl
theorem hf29 : cFunc Tryd.prog 29 = some ⟨17, f29.erase, [(RX.t 2)]⟩ := by kernel_rfl
theorem okf29 : f29.ok = true := by kernel_rfl
def f30r1 : List AI := [⟨none, (.mov 3 (.t 0))⟩, ⟨none, (.bin 4 .geq (.t 3) (.v (.k (.c (.int .i64 0)))))⟩, ⟨none, (.mov 5 (.t 4))⟩, ⟨(some (5, true)), (.mov 6 (.t 0))⟩, ⟨(some (5, true)), (.bin 7 .lss (.t 6) (.v (.k (.c (.int .i64 22)))))⟩, ⟨none, (.pick 8 (.t 5) (.t 7) (.v (.k (.c (.bool false)))))⟩, ⟨none, (.mov 2 (.t 8))⟩]
theorem uf30r1 : type_of% @f30r1.eq_1 := id @f30r1.eq_1
def f30b2 : AQ := (.seq (.region f30r1) .ret)
theorem uf30b2 (P ts os Q) : awl P f30b2 Q ts os = awl P (.seq (.region f30r1) .ret) Q ts os := id rfl
def f30r3 : List AI := [⟨none, (.mov 2 (.v (.k (.c (.bool false)))))⟩]
theorem uf30r3 : type_of% @f30r3.eq_1 := id @f30r3.eq_1
def f30b4 : AQ := (.seq (.region f30r3) f30b2)
theorem uf30b4 (P ts os Q) : awl P f30b4 Q ts os = awl P (.seq (.region f30r3) f30b2) Q ts os := id rfl
def f30 : AQ := f30b4
theorem uf30 (P ts os Q) : awl P f30 Q ts os = awl P f30b4 Q ts os := id rfl
theorem hf30 : cFunc Tryd.prog 30 = some ⟨9, f30.erase, [(RX.t 2)]⟩ := by kernel_rfl
theorem okf30 : f30.ok = true := by kernel_rfl
def f32r1 : List AI := [⟨none, (.mov 25 (.t 8))⟩, ⟨none, (.call (some 26) 46 [(.t 25)])⟩, ⟨none, (.mov 4 (.t 26))⟩]
def f32b2 : AQ := (.seq (.region f32r1) .ret)
def f32r3 : List AI := [⟨none, (.mov 23 (.t 8))⟩, ⟨none, (.call (some 24) 45 [(.t 23)])⟩]
def f32b4 : AQ := (.seq (.region f32r3) f32b2)
def f32r5 : List AI := [⟨none, (.mov 17 (.t 1))⟩, ⟨none, (.build 18 [(.list 0 (some true) [])] [(0, (1, (.t 17)))])⟩, ⟨none, (.load 19 3 true (.t 2))⟩, ⟨none, (.call (some 20) 40 [(.t 18), (.t 19)])⟩, ⟨none, (.mov 16 (.t 20))⟩, ⟨none, (.extr 21 (.t 16) 0)⟩, ⟨none, (.extr 22 (.t 16) 1)⟩, ⟨none, (.alloc 7 30 [(.bool false), (.int .i64 0)])⟩, ⟨none, (.store 2 (.t 7) (.t 21))⟩, ⟨none, (.mov 8 (.t 22))⟩]
theorem uf32r5 : type_of% @f32r5.eq_1 := id @f32r5.eq_1
def f32b6 : AQ := (.seq (.region f32r5) f32b4)
def f32r7 : List AI := [⟨none, (.nilL 4 3 1)⟩]
theorem uf32r7 : type_of% @f32r7.eq_1 := id @f32r7.eq_1
def f32b8 : AQ := (.seq (.region f32r7) .ret)
theorem uf32b8 (P ts os Q) : awl P f32b8 Q ts os = awl P (.seq (.region f32r7) .ret) Q ts os := id rfl
def f32b9 : AQ := (.cond (.t 15) f32b8 .skip)
theorem uf32b9 (P ts os Q) : awl P f32b9 Q ts os = awl P (.cond (.t 15) f32b8 .skip) Q ts os := id rfl
def f32r10 : List AI := [⟨none, (.mov 14 (.t 6))⟩, ⟨none, (.bin 15 .neq (.t 14) (.v (.k (.c (.int .i64 0)))))⟩]
theorem uf32r10 : type_of% @f32r10.eq_1 := id @f32r10.eq_1
def f32b11 : AQ := (.seq (.region f32r10) f32b9)
theorem uf32b11 (P ts os Q) : awl P f32b11 Q ts os = awl P (.seq (.region f32r10) f32b9) Q ts os := id rfl
def f32r12 : List AI := [⟨none, (.load 10 3 true (.t 2))⟩, ⟨none, (.call (some 11) 39 [(.t 10)])⟩, ⟨none, (.mov 9 (.t 11))⟩, ⟨none, (.extr 12 (.t 9) 0)⟩, ⟨none, (.extr 13 (.t 9) 1)⟩, ⟨none, (.mov 5 (.t 12))⟩, ⟨none, (.mov 6 (.t 13))⟩]
theorem uf32r12 : type_of% @f32r12.eq_1 := id @f32r12.eq_1
def f32b13 : AQ := (.seq (.region f32r12) f32b11)
theorem uf32b13 (P ts os Q) : awl P f32b13 Q ts os = awl P (.seq (.region f32r12) f32b11) Q ts os := id rfl
def f32b14 : AQ := (.seq f32b13 f32b6)
def f32r15 : List AI := [⟨none, (.box 2 50 (.t 0))⟩, ⟨none, (.nilL 4 3 1)⟩]
theorem uf32r15 : type_of% @f32r15.eq_1 := id @f32r15.eq_1
def f32b16 : AQ := (.seq (.region f32r15) f32b14)
def f32 : AQ := f32b16
theorem hf32 : cFunc Tryd.prog 32 = some ⟨27, f32.erase, [(RX.t 4)]⟩ := by kernel_rfl
def f33r1 : List AI := [⟨none, (.mov 33 (.t 5))⟩, ⟨none, (.mov 4 (.t 33))⟩]
theorem uf33r1 : type_of% @f33r1.eq_1 := id @f33r1.eq_1
def f33b2 : AQ := (.seq (.region f33r1) .ret)
theorem uf33b2 (P ts os Q) : awl P f33b2 Q ts os = awl P (.seq (.region f33r1) .ret) Q ts os := id rfl
def f33r3 : List AI := [⟨none, (.mov 22 (.t 8))⟩, ⟨none, (.bin 23 .add (.t 22) (.v (.k (.c (.int .i64 1)))))⟩, ⟨none, (.mov 8 (.t 23))⟩]
theorem uf33r3 : type_of% @f33r3.eq_1 := id @f33r3.eq_1
def f33r4 : List AI := [⟨none, (.mov 29 (.t 5))⟩, ⟨none, (.mov 30 (.t 8))⟩, ⟨none, (.bslice 31 3 1 [(.int .i64 0)] 1 [(0, (.t 30))])⟩, ⟨none, (.append 32 3 1 8 (.t 29) (.t 31))⟩, ⟨none, (.mov 5 (.t 32))⟩]
theorem uf33r4 : type_of% @f33r4.eq_1 := id @f33r4.eq_1
def f33b5 : AQ := (.cond (.t 28) (.region f33r4) .skip)
theorem uf33b5 (P ts os Q) : awl P f33b5 Q ts os = awl P (.cond (.t 28) (.region f33r4) .skip) Q ts os := id rfl
def f33r6 : List AI := [⟨none, (.mov 28 (.t 9))⟩]
theorem uf33r6 : type_of% @f33r6.eq_1 := id @f33r6.eq_1
def f33b7 : AQ := (.seq (.region f33r6) f33b5)
theorem uf33b7 (P ts os Q) : awl P f33b7 Q ts os = awl P (.seq (.region f33r6) f33b5) Q ts os := id rfl
def f33r8 : List AI := [⟨none, (.load 24 3 true (.t 2))⟩, ⟨none, (.mov 25 (.t 1))⟩, ⟨none, (.mov 26 (.t 8))⟩, ⟨none, (.call (some 27) 47 [(.t 24), (.t 25), (.t 26)])⟩, ⟨none, (.mov 9 (.t 27))⟩]
theorem uf33r8 : type_of% @f33r8.eq_1 := id @f33r8.eq_1
def f33b9 : AQ := (.seq (.region f33r8) f33b7)
theorem uf33b9 (P ts os Q) : awl P f33b9 Q ts os = awl P (.seq (.region f33r8) f33b7) Q ts os := id rfl
def f33b10 : AQ := (.block 1 f33b9)
theorem uf33b10 (P ts os Q) : awl P f33b10 Q ts os = awl P (.block 1 f33b9) Q ts os := id rfl
def f33b11 : AQ := (.seq f33b10 (.region f33r3))
theorem uf33b11 (P ts os Q) : awl P f33b11 Q ts os = awl P (.seq f33b10 (.region f33r3)) Q ts os := id rfl
def f33b12 : AQ := (.cond (.t 21) .skip (.exit 0))
theorem uf33b12 (P ts os Q) : awl P f33b12 Q ts os = awl P (.cond (.t 21) .skip (.exit 0)) Q ts os := id rfl
def f33r13 : List AI := [⟨none, (.mov 16 (.t 8))⟩, ⟨none, (.bin 17 .lss (.t 16) (.v (.k (.c (.int .i64 20)))))⟩, ⟨none, (.mov 18 (.t 17))⟩, ⟨(some (18, true)), (.mov 19 (.t 7))⟩, ⟨(some (18, true)), (.bin 20 .eql (.t 19) (.v (.k (.c (.int .i64 0)))))⟩, ⟨none, (.pick 21 (.t 18) (.t 20) (.v (.k (.c (.bool false)))))⟩]
theorem uf33r13 : type_of% @f33r13.eq_1 := id @f33r13.eq_1
def f33b14 : AQ := (.seq (.region f33r13) f33b12)
theorem uf33b14 (P ts os Q) : awl P f33b14 Q ts os = awl P (.seq (.region f33r13) f33b12) Q ts os := id rfl
def f33b15 : AQ := (.seq f33b14 f33b11)
theorem uf33b15 (P ts os Q) : awl P f33b15 Q ts os = awl P (.seq f33b14 f33b11) Q ts os := id rfl
def f33l16 : AQ := .loop [1, 2, 5, 7, 8] [2, 10, 32] f33b15
theorem uf33l16 (P ts os Q) : awl P f33l16 Q ts os = awl P (.loop [1, 2, 5, 7, 8] [2, 10, 32] f33b15) Q ts os := id rfl
def f33b17 : AQ := (.block 0 f33l16)
theorem uf33b17 (P ts os Q) : awl P f33b17 Q ts os = awl P (.block 0 f33l16) Q ts os := id rfl
def f33r18 : List AI := [⟨none, (.mov 8 (.v (.k (.c (.int .i64 0)))))⟩]
theorem uf33r18 : type_of% @f33r18.eq_1 := id @f33r18.eq_1
def f33b19 : AQ := (.seq (.region f33r18) f33b17)
theorem uf33b19 (P ts os Q) : awl P f33b19 Q ts os = awl P (.seq (.region f33r18) f33b17) Q ts os := id rfl
def f33b20 : AQ := (.seq f33b19 f33b2)
theorem uf33b20 (P ts os Q) : awl P f33b20 Q ts os = awl P (.seq f33b19 f33b2) Q ts os := id rfl
def f33r21 : List AI := [⟨none, (.load 12 3 true (.t 2))⟩, ⟨none, (.call (some 13) 41 [(.t 12)])⟩, ⟨none, (.mov 11 (.t 13))⟩, ⟨none, (.extr 14 (.t 11) 0)⟩, ⟨none, (.extr 15 (.t 11) 1)⟩, ⟨none, (.mov 6 (.t 14))⟩, ⟨none, (.mov 7 (.t 15))⟩]
theorem uf33r21 : type_of% @f33r21.eq_1 := id @f33r21.eq_1
def f33b22 : AQ := (.seq (.region f33r21) f33b20)
theorem uf33b22 (P ts os Q) : awl P f33b22 Q ts os = awl P (.seq (.region f33r21) f33b20) Q ts os := id rfl
def f33r23 : List AI := [⟨none, (.bslice 10 3 1 [(.int .i64 0)] 0 [])⟩, ⟨none, (.mov 5 (.t 10))⟩]
theorem uf33r23 : type_of% @f33r23.eq_1 := id @f33r23.eq_1
def f33b24 : AQ := (.seq (.region f33r23) f33b22)
theorem uf33b24 (P ts os Q) : awl P f33b24 Q ts os = awl P (.seq (.region f33r23) f33b22) Q ts os := id rfl
def f33r25 : List AI := [⟨none, (.box 2 50 (.t 0))⟩, ⟨none, (.nilL 4 3 1)⟩]
theorem uf33r25 : type_of% @f33r25.eq_1 := id @f33r25.eq_1
def f33b26 : AQ := (.seq (.region f33r25) f33b24)
theorem uf33b26 (P ts os Q) : awl P f33b26 Q ts os = awl P (.seq (.region f33r25) f33b24) Q ts os := id rfl
def f33 : AQ := f33b26
theorem uf33 (P ts os Q) : awl P f33 Q ts os = awl P f33b26 Q ts os := id rfl
theorem hf33 : cFunc Tryd.prog 33 = some ⟨34, f33.erase, [(RX.t 4)]⟩ := by kernel_rfl
theorem okf33 : f33.ok = true := by kernel_rfl
def f34r1 : List AI := [⟨none, (.load 20 1 false (.t 5))⟩, ⟨none, (.call (some 21) 46 [(.t 20)])⟩, ⟨none, (.mov 2 (.t 21))⟩]
theorem uf34r1 : type_of% @f34r1.eq_1 := id @f34r1.eq_1
def f34b2 : AQ := (.seq (.region f34r1) .ret)
theorem uf34b2 (P ts os Q) : awl P f34b2 Q ts os = awl P (.seq (.region f34r1) .ret) Q ts os := id rfl
def f34r3 : List AI := [⟨none, (.load 18 1 false (.t 5))⟩, ⟨none, (.call (some 19) 45 [(.t 18)])⟩]
theorem uf34r3 : type_of% @f34r3.eq_1 := id @f34r3.eq_1
def f34b4 : AQ := (.seq (.region f34r3) f34b2)
theorem uf34b4 (P ts os Q) : awl P f34b4 Q ts os = awl P (.seq (.region f34r3) f34b2) Q ts os := id rfl
def f34r5 : List AI := [⟨none, (.load 15 1 false (.t 6))⟩, ⟨none, (.load 16 3 true (.t 1))⟩, ⟨none, (.callv (some 17) (.t 15) [(.t 16)])⟩]
theorem uf34r5 : type_of% @f34r5.eq_1 := id @f34r5.eq_1
def f34b6 : AQ := (.swap 6 1006 (.swap 5 1005 (.seq (.region f34r5) f34b4)))
theorem uf34b6 (P ts os Q) : awl P f34b6 Q ts os = awl P (.swap 6 1006 (.swap 5 1005 (.seq (.region f34r5) f34b4))) Q ts os := id rfl
def f34r7 : List AI := [⟨none, (.mkfn 14 48 [(.t 5), (.t 6)])⟩, ⟨none, (.store 1 (.t 6) (.t 14))⟩]
theorem uf34r7 : type_of% @f34r7.eq_1 := id @f34r7.eq_1
def f34b8 : AQ := (.seq (.region f34r7) f34b6)
theorem uf34b8 (P ts os Q) : awl P f34b8 Q ts os = awl P (.seq (.region f34r7) f34b6) Q ts os := id rfl
def f34r9 : List AI := [⟨none, (.alloc 6 80 [.nilf])⟩]
theorem uf34r9 : type_of% @f34r9.eq_1 := id @f34r9.eq_1
def f34b10 : AQ := (.seq (.region f34r9) f34b8)
theorem uf34b10 (P ts os Q) : awl P f34b10 Q ts os = awl P (.seq (.region f34r9) f34b8) Q ts os := id rfl
def f34r11 : List AI := [⟨none, (.alloc 5 41 [(.list 0 (some true) [])])⟩]
theorem uf34r11 : type_of% @f34r11.eq_1 := id @f34r11.eq_1
def f34b12 : AQ := (.seq (.region f34r11) (.own 5 1000 3 1 f34b10))
theorem uf34b12 (P ts os Q) : awl P f34b12 Q ts os = awl P (.seq (.region f34r11) (.own 5 1000 3 1 f34b10)) Q ts os := id rfl
def f34r13 : List AI := [⟨none, (.nilL 2 3 1)⟩]
theorem uf34r13 : type_of% @f34r13.eq_1 := id @f34r13.eq_1
def f34b14 : AQ := (.seq (.region f34r13) .ret)
theorem uf34b14 (P ts os Q) : awl P f34b14 Q ts os = awl P (.seq (.region f34r13) .ret) Q ts os := id rfl
def f34b15 : AQ := (.cond (.t 13) f34b14 .skip)
theorem uf34b15 (P ts os Q) : awl P f34b15 Q ts os = awl P (.cond (.t 13) f34b14 .skip) Q ts os := id rfl
def f34r16 : List AI := [⟨none, (.mov 12 (.t 4))⟩, ⟨none, (.bin 13 .neq (.t 12) (.v (.k (.c (.int .i64 0)))))⟩]
theorem uf34r16 : type_of% @f34r16.eq_1 := id @f34r16.eq_1
def f34b17 : AQ := (.seq (.region f34r16) f34b15)
theorem uf34b17 (P ts os Q) : awl P f34b17 Q ts os = awl P (.seq (.region f34r16) f34b15) Q ts os := id rfl
def f34r18 : List AI := [⟨none, (.load 8 3 true (.t 1))⟩, ⟨none, (.call (some 9) 39 [(.t 8)])⟩, ⟨none, (.mov 7 (.t 9))⟩, ⟨none, (.extr 10 (.t 7) 0)⟩, ⟨none, (.extr 11 (.t 7) 1)⟩, ⟨none, (.mov 3 (.t 10))⟩, ⟨none, (.mov 4 (.t 11))⟩]
theorem uf34r18 : type_of% @f34r18.eq_1 := id @f34r18.eq_1
def f34b19 : AQ := (.seq (.region f34r18) f34b17)
theorem uf34b19 (P ts os Q) : awl P f34b19 Q ts os = awl P (.seq (.region f34r18) f34b17) Q ts os := id rfl
def f34b20 : AQ := (.seq f34b19 f34b12)
theorem uf34b20 (P ts os Q) : awl P f34b20 Q ts os = awl P (.seq f34b19 f34b12) Q ts os := id rfl
def f34r21 : List AI := [⟨none, (.box 1 50 (.t 0))⟩, ⟨none, (.nilL 2 3 1)⟩]
theorem uf34r21 : type_of% @f34r21.eq_1 := id @f34r21.eq_1
def f34b22 : AQ := (.seq (.region f34r21) f34b20)
theorem uf34b22 (P ts os Q) : awl P f34b22 Q ts os = awl P (.seq (.region f34r21) f34b20) Q ts os := id rfl
def f34 : AQ := f34b22
theorem uf34 (P ts os Q) : awl P f34 Q ts os = awl P f34b22 Q ts os := id rfl
theorem hf34 : cFunc Tryd.prog 34 = some ⟨22, f34.erase, [(RX.t 2)]⟩ := by kernel_rfl
theorem okf34 : f34.ok = true := by kernel_rfl
def f35r1 : List AI := [⟨none, (.mov 30 (.t 3))⟩, ⟨none, (.mov 2 (.t 30))⟩]
theorem uf35r1 : type_of% @f35r1.eq_1 := id @f35r1.eq_1
def f35b2 : AQ := (.seq (.region f35r1) .ret)
theorem uf35b2 (P ts os Q) : awl P f35b2 Q ts os = awl P (.seq (.region f35r1) .ret) Q ts os := id rfl
def f35r3 : List AI := [⟨none, (.mov 20 (.t 6))⟩, ⟨none, (.bin 21 .add (.t 20) (.v (.k (.c (.int .i64 1)))))⟩, ⟨none, (.mov 6 (.t 21))⟩]
theorem uf35r3 : type_of% @f35r3.eq_1 := id @f35r3.eq_1
def f35r4 : List AI := [⟨none, (.mov 26 (.t 3))⟩, ⟨none, (.mov 27 (.t 6))⟩, ⟨none, (.bslice 28 3 1 [(.int .i64 0)] 1 [(0, (.t 27))])⟩, ⟨none, (.append 29 3 1 8 (.t 26) (.t 28))⟩, ⟨none, (.mov 3 (.t 29))⟩]
theorem uf35r4 : type_of% @f35r4.eq_1 := id @f35r4.eq_1
def f35b5 : AQ := (.cond (.t 25) (.region f35r4) .skip)
theorem uf35b5 (P ts os Q) : awl P f35b5 Q ts os = awl P (.cond (.t 25) (.region f35r4) .skip) Q ts os := id rfl
def f35r6 : List AI := [⟨none, (.mov 25 (.t 7))⟩]
theorem uf35r6 : type_of% @f35r6.eq_1 := id @f35r6.eq_1
def f35b7 : AQ := (.seq (.region f35r6) f35b5)
theorem uf35b7 (P ts os Q) : awl P f35b7 Q ts os = awl P (.seq (.region f35r6) f35b5) Q ts os := id rfl
def f35r8 : List AI := [⟨none, (.load 22 3 true (.t 1))⟩, ⟨none, (.mov 23 (.t 6))⟩, ⟨none, (.call (some 24) 49 [(.t 22), (.t 23)])⟩, ⟨none, (.mov 7 (.t 24))⟩]
theorem uf35r8 : type_of% @f35r8.eq_1 := id @f35r8.eq_1
def f35b9 : AQ := (.seq (.region f35r8) f35b7)
theorem uf35b9 (P ts os Q) : awl P f35b9 Q ts os = awl P (.seq (.region f35r8) f35b7) Q ts os := id rfl
def f35b10 : AQ := (.block 1 f35b9)
theorem uf35b10 (P ts os Q) : awl P f35b10 Q ts os = awl P (.block 1 f35b9) Q ts os := id rfl
def f35b11 : AQ := (.seq f35b10 (.region f35r3))
theorem uf35b11 (P ts os Q) : awl P f35b11 Q ts os = awl P (.seq f35b10 (.region f35r3)) Q ts os := id rfl
def f35b12 : AQ := (.cond (.t 19) .skip (.exit 0))
theorem uf35b12 (P ts os Q) : awl P f35b12 Q ts os = awl P (.cond (.t 19) .skip (.exit 0)) Q ts os := id rfl
def f35r13 : List AI := [⟨none, (.mov 14 (.t 6))⟩, ⟨none, (.bin 15 .lss (.t 14) (.v (.k (.c (.int .i64 20)))))⟩, ⟨none, (.mov 16 (.t 15))⟩, ⟨(some (16, true)), (.mov 17 (.t 5))⟩, ⟨(some (16, true)), (.bin 18 .eql (.t 17) (.v (.k (.c (.int .i64 0)))))⟩, ⟨none, (.pick 19 (.t 16) (.t 18) (.v (.k (.c (.bool false)))))⟩]
theorem uf35r13 : type_of% @f35r13.eq_1 := id @f35r13.eq_1
def f35b14 : AQ := (.seq (.region f35r13) f35b12)
theorem uf35b14 (P ts os Q) : awl P f35b14 Q ts os = awl P (.seq (.region f35r13) f35b12) Q ts os := id rfl
def f35b15 : AQ := (.seq f35b14 f35b11)
theorem uf35b15 (P ts os Q) : awl P f35b15 Q ts os = awl P (.seq f35b14 f35b11) Q ts os := id rfl
def f35l16 : AQ := .loop [1, 3, 5, 6] [1, 8, 29] f35b15
theorem uf35l16 (P ts os Q) : awl P f35l16 Q ts os = awl P (.loop [1, 3, 5, 6] [1, 8, 29] f35b15) Q ts os := id rfl
def f35b17 : AQ := (.block 0 f35l16)
theorem uf35b17 (P ts os Q) : awl P f35b17 Q ts os = awl P (.block 0 f35l16) Q ts os := id rfl
def f35r18 : List AI := [⟨none, (.mov 6 (.v (.k (.c (.int .i64 0)))))⟩]
theorem uf35r18 : type_of% @f35r18.eq_1 := id @f35r18.eq_1
def f35b19 : AQ := (.seq (.region f35r18) f35b17)
theorem uf35b19 (P ts os Q) : awl P f35b19 Q ts os = awl P (.seq (.region f35r18) f35b17) Q ts os := id rfl
def f35b20 : AQ := (.seq f35b19 f35b2)
theorem uf35b20 (P ts os Q) : awl P f35b20 Q ts os = awl P (.seq f35b19 f35b2) Q ts os := id rfl
def f35r21 : List AI := [⟨none, (.load 10 3 true (.t 1))⟩, ⟨none, (.call (some 11) 41 [(.t 10)])⟩, ⟨none, (.mov 9 (.t 11))⟩, ⟨none, (.extr 12 (.t 9) 0)⟩, ⟨none, (.extr 13 (.t 9) 1)⟩, ⟨none, (.mov 4 (.t 12))⟩, ⟨none, (.mov 5 (.t 13))⟩]
theorem uf35r21 : type_of% @f35r21.eq_1 := id @f35r21.eq_1
def f35b22 : AQ := (.seq (.region f35r21) f35b20)
theorem uf35b22 (P ts os Q) : awl P f35b22 Q ts os = awl P (.seq (.region f35r21) f35b20) Q ts os := id rfl
def f35r23 : List AI := [⟨none, (.bslice 8 3 1 [(.int .i64 0)] 0 [])⟩, ⟨none, (.mov 3 (.t 8))⟩]
theorem uf35r23 : type_of% @f35r23.eq_1 := id @f35r23.eq_1
def f35b24 : AQ := (.seq (.region f35r23) f35b22)
theorem uf35b24 (P ts os Q) : awl P f35b24 Q ts os = awl P (.seq (.region f35r23) f35b22) Q ts os := id rfl
def f35r25 : List AI := [⟨none, (.box 1 50 (.t 0))⟩, ⟨none, (.nilL 2 3 1)⟩]
theorem uf35r25 : type_of% @f35r25.eq_1 := id @f35r25.eq_1
def f35b26 : AQ := (.seq (.region f35r25) f35b24)
theorem uf35b26 (P ts os Q) : awl P f35b26 Q ts os = awl P (.seq (.region f35r25) f35b24) Q ts os := id rfl
def f35 : AQ := f35b26
theorem uf35 (P ts os Q) : awl P f35 Q ts os = awl P f35b26 Q ts os := id rfl
theorem hf35 : cFunc Tryd.prog 35 = some ⟨31, f35.erase, [(RX.t 2)]⟩ := by kernel_rfl
theorem okf35 : f35.ok = true := by kernel_rfl
def f36r1 : List AI := [⟨none, (.mov 32 (.t 1))⟩, ⟨none, (.mov 6 (.t 32))⟩]
theorem uf36r1 : type_of% @f36r1.eq_1 := id @f36r1.eq_1
def f36b2 : AQ := (.seq (.region f36r1) .ret)
theorem uf36b2 (P ts os Q) : awl P f36b2 Q ts os = awl P (.seq (.region f36r1) .ret) Q ts os := id rfl
def f36r3 : List AI := [⟨none, (.mov 21 (.t 7))⟩, ⟨none, (.bin 22 .add (.t 21) (.v (.k (.c (.int .i64 1)))))⟩, ⟨none, (.mov 7 (.t 22))⟩]
theorem uf36r3 : type_of% @f36r3.eq_1 := id @f36r3.eq_1
def f36r4 : List AI := [⟨none, (.faddr 23 2 (.t 3))⟩, ⟨none, (.load 24 1 false (.t 23))⟩, ⟨none, (.mov 25 (.t 7))⟩, ⟨none, (.iaddr 26 3 (.t 24) (.t 25))⟩, ⟨none, (.load 27 3 true (.t 26))⟩, ⟨none, (.mov 28 (.t 1))⟩, ⟨none, (.mov 29 (.t 2))⟩, ⟨none, (.bin 30 .sub (.t 29) (.v (.k (.c (.int .i64 1)))))⟩, ⟨none, (.call (some 31) 36 [(.t 27), (.t 28), (.t 30)])⟩, ⟨none, (.mov 1 (.t 31))⟩]
theorem uf36r4 : type_of% @f36r4.eq_1 := id @f36r4.eq_1
def f36b5 : AQ := (.block 1 (.region f36r4))
theorem uf36b5 (P ts os Q) : awl P f36b5 Q ts os = awl P (.block 1 (.region f36r4)) Q ts os := id rfl
def f36b6 : AQ := (.seq f36b5 (.region f36r3))
theorem uf36b6 (P ts os Q) : awl P f36b6 Q ts os = awl P (.seq f36b5 (.region f36r3)) Q ts os := id rfl
def f36b7 : AQ := (.cond (.t 20) .skip (.exit 0))
theorem uf36b7 (P ts os Q) : awl P f36b7 Q ts os = awl P (.cond (.t 20) .skip (.exit 0)) Q ts os := id rfl
def f36r8 : List AI := [⟨none, (.mov 12 (.t 7))⟩, ⟨none, (.faddr 13 2 (.t 3))⟩, ⟨none, (.load 14 1 false (.t 13))⟩, ⟨none, (.len 15 (.t 14))⟩, ⟨none, (.bin 16 .lss (.t 12) (.t 15))⟩, ⟨none, (.mov 17 (.t 16))⟩, ⟨(some (17, true)), (.mov 18 (.t 1))⟩, ⟨(some (17, true)), (.bin 19 .geq (.t 18) (.v (.k (.c (.int .i64 0)))))⟩, ⟨none, (.pick 20 (.t 17) (.t 19) (.v (.k (.c (.bool false)))))⟩]
theorem uf36r8 : type_of% @f36r8.eq_1 := id @f36r8.eq_1
def f36b9 : AQ := (.seq (.region f36r8) f36b7)
theorem uf36b9 (P ts os Q) : awl P f36b9 Q ts os = awl P (.seq (.region f36r8) f36b7) Q ts os := id rfl
def f36b10 : AQ := (.seq f36b9 f36b6)
theorem uf36b10 (P ts os Q) : awl P f36b10 Q ts os = awl P (.seq f36b9 f36b6) Q ts os := id rfl
def f36l11 : AQ := .loop [1, 2, 3, 7] [3] f36b10
theorem uf36l11 (P ts os Q) : awl P f36l11 Q ts os = awl P (.loop [1, 2, 3, 7] [3] f36b10) Q ts os := id rfl
def f36b12 : AQ := (.block 0 f36l11)
theorem uf36b12 (P ts os Q) : awl P f36b12 Q ts os = awl P (.block 0 f36l11) Q ts os := id rfl
def f36r13 : List AI := [⟨none, (.mov 7 (.v (.k (.c (.int .i64 0)))))⟩]
theorem uf36r13 : type_of% @f36r13.eq_1 := id @f36r13.eq_1
def f36b14 : AQ := (.seq (.region f36r13) f36b12)
theorem uf36b14 (P ts os Q) : awl P f36b14 Q ts os = awl P (.seq (.region f36r13) f36b12) Q ts os := id rfl
def f36b15 : AQ := (.seq f36b14 f36b2)
theorem uf36b15 (P ts os Q) : awl P f36b15 Q ts os = awl P (.seq f36b14 f36b2) Q ts os := id rfl
def f36r16 : List AI := [⟨none, (.mov 6 (.v (.k (.c (.int .i64 (-1))))))⟩]
theorem uf36r16 : type_of% @f36r16.eq_1 := id @f36r16.eq_1
def f36b17 : AQ := (.seq (.region f36r16) .ret)
theorem uf36b17 (P ts os Q) : awl P f36b17 Q ts os = awl P (.seq (.region f36r16) .ret) Q ts os := id rfl
def f36b18 : AQ := (.cond (.t 11) f36b17 .skip)
theorem uf36b18 (P ts os Q) : awl P f36b18 Q ts os = awl P (.cond (.t 11) f36b17 .skip) Q ts os := id rfl
def f36r19 : List AI := [⟨none, (.mov 10 (.t 2))⟩, ⟨none, (.bin 11 .lss (.t 10) (.v (.k (.c (.int .i64 1)))))⟩]
theorem uf36r19 : type_of% @f36r19.eq_1 := id @f36r19.eq_1
def f36b20 : AQ := (.seq (.region f36r19) f36b18)
theorem uf36b20 (P ts os Q) : awl P f36b20 Q ts os = awl P (.seq (.region f36r19) f36b18) Q ts os := id rfl
def f36b21 : AQ := (.seq f36b20 f36b15)
theorem uf36b21 (P ts os Q) : awl P f36b21 Q ts os = awl P (.seq f36b20 f36b15) Q ts os := id rfl
def f36r22 : List AI := [⟨none, (.mov 8 (.t 1))⟩, ⟨none, (.bin 9 .sub (.t 8) (.v (.k (.c (.int .i64 1)))))⟩, ⟨none, (.mov 1 (.t 9))⟩]
theorem uf36r22 : type_of% @f36r22.eq_1 := id @f36r22.eq_1
def f36b23 : AQ := (.seq (.region f36r22) f36b21)
theorem uf36b23 (P ts os Q) : awl P f36b23 Q ts os = awl P (.seq (.region f36r22) f36b21) Q ts os := id rfl
def f36r24 : List AI := [⟨none, (.box 3 50 (.t 0))⟩, ⟨none, (.mov 6 (.v (.k (.c (.int .i64 0)))))⟩]
theorem uf36r24 : type_of% @f36r24.eq_1 := id @f36r24.eq_1
def f36b25 : AQ := (.seq (.region f36r24) f36b23)
theorem uf36b25 (P ts os Q) : awl P f36b25 Q ts os = awl P (.seq (.region f36r24) f36b23) Q ts os := id rfl
def f36 : AQ := f36b25
theorem uf36 (P ts os Q) : awl P f36 Q ts os = awl P f36b25 Q ts os := id rfl
theorem hf36 : cFunc Tryd.prog 36 = some ⟨33, f36.erase, [(RX.t 6)]⟩ := by kernel_rfl
theorem okf36 : f36.ok = true := by kernel_rfl
def f37r1 : List AI := [⟨none, (.mov 4 (.v (.k (.c (.int .i64 (-1))))))⟩]
theorem uf37r1 : type_of% @f37r1.eq_1 := id @f37r1.eq_1
def f37b2 : AQ := (.seq (.region f37r1) .ret)
theorem uf37b2 (P ts os Q) : awl P f37b2 Q ts os = awl P (.seq (.region f37r1) .ret) Q ts os := id rfl
def f37r3 : List AI := [⟨none, (.bin 18 .add (.t 8) (.v (.k (.c (.int .i64 1)))))⟩, ⟨none, (.mov 8 (.t 18))⟩]
theorem uf37r3 : type_of% @f37r3.eq_1 := id @f37r3.eq_1
def f37r4 : List AI := [⟨none, (.mov 17 (.t 5))⟩, ⟨none, (.mov 4 (.t 17))⟩]
theorem uf37r4 : type_of% @f37r4.eq_1 := id @f37r4.eq_1
def f37b5 : AQ := (.seq (.region f37r4) .ret)
theorem uf37b5 (P ts os Q) : awl P f37b5 Q ts os = awl P (.seq (.region f37r4) .ret) Q ts os := id rfl
def f37b6 : AQ := (.cond (.t 16) f37b5 .skip)
theorem uf37b6 (P ts os Q) : awl P f37b6 Q ts os = awl P (.cond (.t 16) f37b5 .skip) Q ts os := id rfl
def f37r7 : List AI := [⟨none, (.mov 11 (.t 1))⟩, ⟨none, (.mov 12 (.t 0))⟩, ⟨none, (.mov 13 (.t 5))⟩, ⟨none, (.iaddr 14 4 (.t 12) (.t 13))⟩, ⟨none, (.load 15 4 true (.t 14))⟩, ⟨none, (.callv (some 16) (.t 11) [(.t 15)])⟩]
theorem uf37r7 : type_of% @f37r7.eq_1 := id @f37r7.eq_1
def f37b8 : AQ := (.seq (.region f37r7) f37b6)
theorem uf37b8 (P ts os Q) : awl P f37b8 Q ts os = awl P (.seq (.region f37r7) f37b6) Q ts os := id rfl
def f37r9 : List AI := [⟨none, (.mov 10 (.t 8))⟩, ⟨none, (.mov 5 (.t 10))⟩]
theorem uf37r9 : type_of% @f37r9.eq_1 := id @f37r9.eq_1
def f37b10 : AQ := (.seq (.region f37r9) f37b8)
theorem uf37b10 (P ts os Q) : awl P f37b10 Q ts os = awl P (.seq (.region f37r9) f37b8) Q ts os := id rfl
def f37b11 : AQ := (.block 1 f37b10)
theorem uf37b11 (P ts os Q) : awl P f37b11 Q ts os = awl P (.block 1 f37b10) Q ts os := id rfl
def f37b12 : AQ := (.seq f37b11 (.region f37r3))
theorem uf37b12 (P ts os Q) : awl P f37b12 Q ts os = awl P (.seq f37b11 (.region f37r3)) Q ts os := id rfl
def f37b13 : AQ := (.cond (.t 9) .skip (.exit 0))
theorem uf37b13 (P ts os Q) : awl P f37b13 Q ts os = awl P (.cond (.t 9) .skip (.exit 0)) Q ts os := id rfl
def f37b14 : AQ := (.seq f37b13 f37b12)
theorem uf37b14 (P ts os Q) : awl P f37b14 Q ts os = awl P (.seq f37b13 f37b12) Q ts os := id rfl
def f37r15 : List AI := [⟨none, (.bin 9 .lss (.t 8) (.t 7))⟩]
theorem uf37r15 : type_of% @f37r15.eq_1 := id @f37r15.eq_1
def f37b16 : AQ := (.seq (.region f37r15) f37b14)
theorem uf37b16 (P ts os Q) : awl P f37b16 Q ts os = awl P (.seq (.region f37r15) f37b14) Q ts os := id rfl
def f37l17 : AQ := .loop [0, 1, 7, 8] [] f37b16
theorem uf37l17 (P ts os Q) : awl P f37l17 Q ts os = awl P (.loop [0, 1, 7, 8] [] f37b16) Q ts os := id rfl
def f37b18 : AQ := (.block 0 f37l17)
theorem uf37b18 (P ts os Q) : awl P f37b18 Q ts os = awl P (.block 0 f37l17) Q ts os := id rfl
def f37r19 : List AI := [⟨none, (.mov 6 (.t 0))⟩, ⟨none, (.len 7 (.t 6))⟩, ⟨none, (.mov 8 (.v (.k (.c (.int .i64 0)))))⟩]
theorem uf37r19 : type_of% @f37r19.eq_1 := id @f37r19.eq_1
def f37b20 : AQ := (.seq (.region f37r19) f37b18)
theorem uf37b20 (P ts os Q) : awl P f37b20 Q ts os = awl P (.seq (.region f37r19) f37b18) Q ts os := id rfl
def f37b21 : AQ := (.seq f37b20 f37b2)
theorem uf37b21 (P ts os Q) : awl P f37b21 Q ts os = awl P (.seq f37b20 f37b2) Q ts os := id rfl
def f37r22 : List AI := [⟨none, (.mov 4 (.v (.k (.c (.int .i64 0)))))⟩]
theorem uf37r22 : type_of% @f37r22.eq_1 := id @f37r22.eq_1
def f37b23 : AQ := (.seq (.region f37r22) f37b21)
theorem uf37b23 (P ts os Q) : awl P f37b23 Q ts os = awl P (.seq (.region f37r22) f37b21) Q ts os := id rfl
def f37 : AQ := f37b23
theorem uf37 (P ts os Q) : awl P f37 Q ts os = awl P f37b23 Q ts os := id rfl
theorem hf37 : cFunc Tryd.prog 37 = some ⟨19, f37.erase, [(RX.t 4)]⟩ := by kernel_rfl
theorem okf37 : f37.ok = true := by kernel_rfl
def f38r1 : List AI := [⟨none, (.faddr 4 0 (.t 2))⟩, ⟨none, (.load 5 1 false (.t 4))⟩, ⟨none, (.load 6 1 false (.t 1))⟩, ⟨none, (.bin 7 .eql (.t 5) (.t 6))⟩, ⟨none, (.mov 3 (.t 7))⟩]
theorem uf38r1 : type_of% @f38r1.eq_1 := id @f38r1.eq_1
def f38b2 : AQ := (.seq (.region f38r1) .ret)
theorem uf38b2 (P ts os Q) : awl P f38b2 Q ts os = awl P (.seq (.region f38r1) .ret) Q ts os := id rfl
def f38r3 : List AI := [⟨none, (.box 2 52 (.t 0))⟩, ⟨none, (.mov 3 (.v (.k (.c (.bool false)))))⟩]
theorem uf38r3 : type_of% @f38r3.eq_1 := id @f38r3.eq_1
def f38b4 : AQ := (.seq (.region f38r3) f38b2)
theorem uf38b4 (P ts os Q) : awl P f38b4 Q ts os = awl P (.seq (.region f38r3) f38b2) Q ts os := id rfl
def f38 : AQ := f38b4
theorem uf38 (P ts os Q) : awl P f38 Q ts os = awl P f38b4 Q ts os := id rfl
theorem hf38 : cFunc Tryd.prog 38 = some ⟨8, f38.erase, [(RX.t 3)]⟩ := by kernel_rfl
theorem okf38 : f38.ok = true := by kernel_rfl
def f39r1 : List AI := [⟨none, (.load 7 3 true (.t 1))⟩, ⟨none, (.call (some 8) 51 [(.t 7)])⟩, ⟨none, (.extr 9 (.t 8) 0)⟩, ⟨none, (.extr 10 (.t 8) 1)⟩, ⟨none, (.mov 2 (.t 9))⟩, ⟨none, (.mov 3 (.t 10))⟩]
theorem uf39r1 : type_of% @f39r1.eq_1 := id @f39r1.eq_1
def f39b2 : AQ := (.seq (.region f39r1) .ret)
theorem uf39b2 (P ts os Q) : awl P f39b2 Q ts os = awl P (.seq (.region f39r1) .ret) Q ts os := id rfl
def f39r3 : List AI := [⟨none, (.mov 2 (.v (.k (.c (.int .i64 0)))))⟩, ⟨none, (.mov 3 (.v (.k (.c (.int .i64 6)))))⟩]
theorem uf39r3 : type_of% @f39r3.eq_1 := id @f39r3.eq_1
def f39b4 : AQ := (.seq (.region f39r3) .ret)
theorem uf39b4 (P ts os Q) : awl P f39b4 Q ts os = awl P (.seq (.region f39r3) .ret) Q ts os := id rfl
def f39b5 : AQ := (.cond (.t 6) f39b4 .skip)
theorem uf39b5 (P ts os Q) : awl P f39b5 Q ts os = awl P (.cond (.t 6) f39b4 .skip) Q ts os := id rfl
def f39r6 : List AI := [⟨none, (.load 4 3 true (.t 1))⟩, ⟨none, (.call (some 5) 50 [(.t 4), (.v (.k (.c (.int .i64 1))))])⟩, ⟨none, (.bin 6 .gtr (.t 5) (.v (.k (.c (.int .i64 60)))))⟩]
theorem uf39r6 : type_of% @f39r6.eq_1 := id @f39r6.eq_1
def f39b7 : AQ := (.seq (.region f39r6) f39b5)
theorem uf39b7 (P ts os Q) : awl P f39b7 Q ts os = awl P (.seq (.region f39r6) f39b5) Q ts os := id rfl
def f39b8 : AQ := (.seq f39b7 f39b2)
theorem uf39b8 (P ts os Q) : awl P f39b8 Q ts os = awl P (.seq f39b7 f39b2) Q ts os := id rfl
def f39r9 : List AI := [⟨none, (.box 1 50 (.t 0))⟩, ⟨none, (.mov 2 (.v (.k (.c (.int .i64 0)))))⟩, ⟨none, (.mov 3 (.v (.k (.c (.int .i64 0)))))⟩]
theorem uf39r9 : type_of% @f39r9.eq_1 := id @f39r9.eq_1
def f39b10 : AQ := (.seq (.region f39r9) f39b8)
theorem uf39b10 (P ts os Q) : awl P f39b10 Q ts os = awl P (.seq (.region f39r9) f39b8) Q ts os := id rfl
def f39 : AQ := f39b10
theorem uf39 (P ts os Q) : awl P f39 Q ts os = awl P f39b10 Q ts os := id rfl
theorem hf39 : cFunc Tryd.prog 39 = some ⟨11, f39.erase, [(RX.t 2), (RX.t 3)]⟩ := by kernel_rfl
theorem okf39 : f39.ok = true := by kernel_rfl
def f40r1 : List AI := [⟨none, (.build 92 [(.bool false), (.int .i64 0)] [])⟩, ⟨none, (.mov 93 (.t 8))⟩, ⟨none, (.call (some 94) 54 [(.t 93)])⟩, ⟨none, (.store 2 (.t 4) (.t 92))⟩, ⟨none, (.mov 5 (.t 94))⟩]
theorem uf40r1 : type_of% @f40r1.eq_1 := id @f40r1.eq_1
def f40b2 : AQ := (.seq (.region f40r1) .ret)
theorem uf40b2 (P ts os Q) : awl P f40b2 Q ts os = awl P (.seq (.region f40r1) .ret) Q ts os := id rfl
def f40r3 : List AI := [⟨none, (.load 91 2 true (.t 12))⟩, ⟨none, (.store 2 (.t 4) (.t 91))⟩, ⟨none, (.nilL 5 3 1)⟩]
theorem uf40r3 : type_of% @f40r3.eq_1 := id @f40r3.eq_1
def f40b4 : AQ := (.seq (.region f40r3) .ret)
theorem uf40b4 (P ts os Q) : awl P f40b4 Q ts os = awl P (.seq (.region f40r3) .ret) Q ts os := id rfl
def f40b5 : AQ := (.cond (.t 90) f40b4 .skip)
theorem uf40b5 (P ts os Q) : awl P f40b5 Q ts os = awl P (.cond (.t 90) f40b4 .skip) Q ts os := id rfl
def f40r6 : List AI := [⟨none, (.faddr 89 0 (.t 12))⟩, ⟨none, (.load 90 1 false (.t 89))⟩]
theorem uf40r6 : type_of% @f40r6.eq_1 := id @f40r6.eq_1
def f40b7 : AQ := (.seq (.region f40r6) f40b5)
theorem uf40b7 (P ts os Q) : awl P f40b7 Q ts os = awl P (.seq (.region f40r6) f40b5) Q ts os := id rfl
def f40r8 : List AI := [⟨none, (.faddr 85 0 (.t 3))⟩, ⟨none, (.load 86 1 false (.t 85))⟩, ⟨none, (.mov 87 (.t 7))⟩, ⟨none, (.call (some 88) 53 [(.t 86), (.t 87)])⟩, ⟨none, (.alloc 12 30 [(.bool false), (.int .i64 0)])⟩, ⟨none, (.store 2 (.t 12) (.t 88))⟩]
theorem uf40r8 : type_of% @f40r8.eq_1 := id @f40r8.eq_1
def f40b9 : AQ := (.seq (.region f40r8) f40b7)
theorem uf40b9 (P ts os Q) : awl P f40b9 Q ts os = awl P (.seq (.region f40r8) f40b7) Q ts os := id rfl
def f40b10 : AQ := (.seq f40b9 f40b2)
theorem uf40b10 (P ts os Q) : awl P f40b10 Q ts os = awl P (.seq f40b9 f40b2) Q ts os := id rfl
def f40r11o0 : AI := ⟨none, (.mov 77 (.t 7))⟩
theorem uf40r11o0 : f40r11o0 = ⟨none, (.mov 77 (.t 7))⟩ := id rfl
def f40r11o1 : AI := ⟨none, (.mov 78 (.t 11))⟩
theorem uf40r11o1 : f40r11o1 = ⟨none, (.mov 78 (.t 11))⟩ := id rfl
def f40r11o2 : AI := ⟨none, (.iaddr 79 2 (.t 77) (.t 78))⟩
theorem uf40r11o2 : f40r11o2 = ⟨none, (.iaddr 79 2 (.t 77) (.t 78))⟩ := id rfl
def f40r11o3 : AI := ⟨none, (.load 80 2 true (.t 79))⟩
theorem uf40r11o3 : f40r11o3 = ⟨none, (.load 80 2 true (.t 79))⟩ := id rfl
def f40r11o4 : AI := ⟨none, (.mov 81 (.t 8))⟩
theorem uf40r11o4 : f40r11o4 = ⟨none, (.mov 81 (.t 8))⟩ := id rfl
def f40r11o5 : AI := ⟨none, (.mov 82 (.t 11))⟩
theorem uf40r11o5 : f40r11o5 = ⟨none, (.mov 82 (.t 11))⟩ := id rfl
def f40r11o6 : AI := ⟨none, (.iaddr 83 1 (.t 81) (.t 82))⟩
theorem uf40r11o6 : f40r11o6 = ⟨none, (.iaddr 83 1 (.t 81) (.t 82))⟩ := id rfl
def f40r11o7 : AI := ⟨none, (.load 84 1 false (.t 83))⟩
theorem uf40r11o7 : f40r11o7 = ⟨none, (.load 84 1 false (.t 83))⟩ := id rfl
def f40r11o8 : AI := ⟨none, (.store 2 (.t 4) (.t 80))⟩
theorem uf40r11o8 : f40r11o8 = ⟨none, (.store 2 (.t 4) (.t 80))⟩ := id rfl
def f40r11o9 : AI := ⟨none, (.mov 5 (.t 84))⟩
theorem uf40r11o9 : f40r11o9 = ⟨none, (.mov 5 (.t 84))⟩ := id rfl
def f40r11 : List AI := [f40r11o0, f40r11o1, f40r11o2, f40r11o3, f40r11o4, f40r11o5, f40r11o6, f40r11o7, f40r11o8, f40r11o9]
theorem utf40r11 : treeOf f40r11 [[], [], [0, 1], [2], [], [], [4, 5], [6], [3, 0, 1, 2, 3], [7, 8, 0, 1, 2, 3, 4, 5, 6, 7, 8]] = (.one f40r11o0 (.one f40r11o1 (.one f40r11o2 (.one f40r11o3 (.alt (.one f40r11o4 (.alt (.one f40r11o5 (.alt (.one f40r11o6 (.alt (.one f40r11o7 (.one f40r11o8 (.one f40r11o9 .done))) (.alt (.one f40r11o8 (.one f40r11o7 (.one f40r11o9 .done))) .top))) (.alt (.one f40r11o8 (.one f40r11o6 (.one f40r11o7 (.one f40r11o9 .done)))) .top))) (.alt (.one f40r11o8 (.one f40r11o5 (.one f40r11o6 (.one f40r11o7 (.one f40r11o9 .done))))) .top))) (.alt (.one f40r11o5 (.alt (.one f40r11o4 (.alt (.one f40r11o6 (.alt (.one f40r11o7 (.one f40r11o8 (.one f40r11o9 .done))) (.alt (.one f40r11o8 (.one f40r11o7 (.one f40r11o9 .done))) .top))) (.alt (.one f40r11o8 (.one f40r11o6 (.one f40r11o7 (.one f40r11o9 .done)))) .top))) (.alt (.one f40r11o8 (.one f40r11o4 (.one f40r11o6 (.one f40r11o7 (.one f40r11o9 .done))))) .top))) (.alt (.one f40r11o8 (.one f40r11o4 (.one f40r11o5 (.one f40r11o6 (.one f40r11o7 (.one f40r11o9 .done)))))) .top))))))) := by kernel_rfl
def f40b12 : AQ := (.seq (.tree f40r11 [[], [], [0, 1], [2], [], [], [4, 5], [6], [3, 0, 1, 2, 3], [7, 8, 0, 1, 2, 3, 4, 5, 6, 7, 8]]) (.keep [4, 5] [4, 5, 26, 33, 37, 41, 57, 88, 94, 27000, 27001, 27002, 58000, 58001, 58002, 89000, 89001, 89002, 95000, 95001, 95002] .ret))
theorem uf40b12 (P ts os Q) : awl P f40b12 Q ts os = awl P (.seq (.tree f40r11 [[], [], [0, 1], [2], [], [], [4, 5], [6], [3, 0, 1, 2, 3], [7, 8, 0, 1, 2, 3, 4, 5, 6, 7, 8]]) (.keep [4, 5] [4, 5, 26, 33, 37, 41, 57, 88, 94, 27000, 27001, 27002, 58000, 58001, 58002, 89000, 89001, 89002, 95000, 95001, 95002] .ret)) Q ts os := id rfl
def f40r13 : List AI := [⟨none, (.mov 72 (.t 7))⟩, ⟨none, (.iaddr 73 2 (.t 72) (.v (.k (.c (.int .i64 0)))))⟩, ⟨none, (.faddr 74 1 (.t 73))⟩, ⟨none, (.load 75 1 false (.t 74))⟩, ⟨none, (.bin 76 .sub (.v (.k (.c (.int .i64 2)))) (.t 75))⟩, ⟨none, (.mov 11 (.t 76))⟩]
theorem uf40r13 : type_of% @f40r13.eq_1 := id @f40r13.eq_1
def f40b14 : AQ := (.seq (.region f40r13) f40b12)
theorem uf40b14 (P ts os Q) : awl P f40b14 Q ts os = awl P (.seq (.region f40r13) f40b12) Q ts os := id rfl
def f40b15 : AQ := (.cond (.t 71) f40b14 .skip)
theorem uf40b15 (P ts os Q) : awl P f40b15 Q ts os = awl P (.cond (.t 71) f40b14 .skip) Q ts os := id rfl
def f40r16 : List AI := [⟨none, (.faddr 63 0 (.t 3))⟩, ⟨none, (.load 64 1 false (.t 63))⟩, ⟨none, (.bin 65 .eql (.t 64) (.v (.k (.c (.int .i64 6)))))⟩, ⟨none, (.mov 66 (.t 65))⟩, ⟨(some (66, true)), (.mov 67 (.t 7))⟩, ⟨(some (66, true)), (.iaddr 68 2 (.t 67) (.v (.k (.c (.int .i64 0)))))⟩, ⟨(some (66, true)), (.faddr 69 0 (.t 68))⟩, ⟨(some (66, true)), (.load 70 1 false (.t 69))⟩, ⟨none, (.pick 71 (.t 66) (.t 70) (.v (.k (.c (.bool false)))))⟩]
theorem uf40r16 : type_of% @f40r16.eq_1 := id @f40r16.eq_1
def f40b17 : AQ := (.seq (.region f40r16) f40b15)
theorem uf40b17 (P ts os Q) : awl P f40b17 Q ts os = awl P (.seq (.region f40r16) f40b15) Q ts os := id rfl
def f40b18 : AQ := (.seq f40b17 f40b10)
theorem uf40b18 (P ts os Q) : awl P f40b18 Q ts os = awl P (.seq f40b17 f40b10) Q ts os := id rfl
def f40r19 : List AI := [⟨none, (.bin 62 .add (.t 45) (.v (.k (.c (.int .i64 1)))))⟩, ⟨none, (.mov 45 (.t 62))⟩]
theorem uf40r19 : type_of% @f40r19.eq_1 := id @f40r19.eq_1
def f40r20 : List AI := [⟨none, (.mov 51 (.t 7))⟩, ⟨none, (.mov 52 (.t 9))⟩, ⟨none, (.mov 53 (.t 8))⟩, ⟨none, (.mov 54 (.t 9))⟩, ⟨none, (.load 55 1 true (.t 2))⟩, ⟨none, (.load 56 3 true (.t 10))⟩, ⟨none, (.call (some 57) 40 [(.t 55), (.t 56)])⟩, ⟨none, (.mov 50 (.t 57))⟩, ⟨none, (.extr 58 (.t 50) 0)⟩, ⟨none, (.extr 59 (.t 50) 1)⟩, ⟨none, (.iaddr 60 2 (.t 51) (.t 52))⟩, ⟨none, (.store 2 (.t 60) (.t 58))⟩, ⟨none, (.iaddr 61 1 (.t 53) (.t 54))⟩, ⟨none, (.store 1 (.t 61) (.t 59))⟩]
theorem uf40r20 : type_of% @f40r20.eq_1 := id @f40r20.eq_1
def f40r21 : List AI := [⟨none, (.mov 47 (.t 45))⟩, ⟨none, (.iaddr 48 3 (.t 43) (.t 45))⟩, ⟨none, (.load 49 3 true (.t 48))⟩, ⟨none, (.alloc 10 50 [(.int .i64 0), (.int .i64 0), (.list 0 (some true) [])])⟩, ⟨none, (.mov 9 (.t 47))⟩, ⟨none, (.store 3 (.t 10) (.t 49))⟩]
theorem uf40r21 : type_of% @f40r21.eq_1 := id @f40r21.eq_1
def f40b22 : AQ := (.seq (.region f40r21) (.region f40r20))
theorem uf40b22 (P ts os Q) : awl P f40b22 Q ts os = awl P (.seq (.region f40r21) (.region f40r20)) Q ts os := id rfl
def f40b23 : AQ := (.block 2 f40b22)
theorem uf40b23 (P ts os Q) : awl P f40b23 Q ts os = awl P (.block 2 f40b22) Q ts os := id rfl
def f40b24 : AQ := (.seq f40b23 (.region f40r19))
theorem uf40b24 (P ts os Q) : awl P f40b24 Q ts os = awl P (.seq f40b23 (.region f40r19)) Q ts os := id rfl
def f40b25 : AQ := (.cond (.t 46) .skip (.exit 1))
theorem uf40b25 (P ts os Q) : awl P f40b25 Q ts os = awl P (.cond (.t 46) .skip (.exit 1)) Q ts os := id rfl
def f40b26 : AQ := (.seq f40b25 f40b24)
theorem uf40b26 (P ts os Q) : awl P f40b26 Q ts os = awl P (.seq f40b25 f40b24) Q ts os := id rfl
def f40r27 : List AI := [⟨none, (.bin 46 .lss (.t 45) (.t 44))⟩]
theorem uf40r27 : type_of% @f40r27.eq_1 := id @f40r27.eq_1
def f40b28 : AQ := (.seq (.region f40r27) f40b26)
theorem uf40b28 (P ts os Q) : awl P f40b28 Q ts os = awl P (.seq (.region f40r27) f40b26) Q ts os := id rfl
def f40l29 : AQ := .loop [2, 3, 4, 7, 8, 43, 44, 45] [2, 3, 4, 26, 37, 41, 57, 88, 27000, 27001, 27002, 58000, 58001, 58002, 89000, 89001, 89002] f40b28
theorem uf40l29 (P ts os Q) : awl P f40l29 Q ts os = awl P (.loop [2, 3, 4, 7, 8, 43, 44, 45] [2, 3, 4, 26, 37, 41, 57, 88, 27000, 27001, 27002, 58000, 58001, 58002, 89000, 89001, 89002] f40b28) Q ts os := id rfl
def f40b30 : AQ := (.block 1 f40l29)
theorem uf40b30 (P ts os Q) : awl P f40b30 Q ts os = awl P (.block 1 f40l29) Q ts os := id rfl
def f40r31 : List AI := [⟨none, (.faddr 42 2 (.t 3))⟩, ⟨none, (.load 43 1 false (.t 42))⟩, ⟨none, (.len 44 (.t 43))⟩, ⟨none, (.mov 45 (.v (.k (.c (.int .i64 0)))))⟩]
theorem uf40r31 : type_of% @f40r31.eq_1 := id @f40r31.eq_1
def f40b32 : AQ := (.seq (.region f40r31) f40b30)
theorem uf40b32 (P ts os Q) : awl P f40b32 Q ts os = awl P (.seq (.region f40r31) f40b30) Q ts os := id rfl
def f40b33 : AQ := (.seq f40b32 (.frz 41 (.frz 37 f40b18)))
theorem uf40b33 (P ts os Q) : awl P f40b33 Q ts os = awl P (.seq f40b32 (.frz 41 (.frz 37 f40b18))) Q ts os := id rfl
def f40r34 : List AI := [⟨none, (.faddr 38 2 (.t 3))⟩, ⟨none, (.load 39 1 false (.t 38))⟩, ⟨none, (.len 40 (.t 39))⟩, ⟨none, (.mkslice 41 41 1 24 [(.list 0 (some true) [])] (.t 40) (.t 40))⟩, ⟨none, (.mov 8 (.t 41))⟩]
theorem uf40r34 : type_of% @f40r34.eq_1 := id @f40r34.eq_1
def f40b35 : AQ := (.seq (.region f40r34) f40b33)
theorem uf40b35 (P ts os Q) : awl P f40b35 Q ts os = awl P (.seq (.region f40r34) f40b33) Q ts os := id rfl
def f40r36 : List AI := [⟨none, (.faddr 34 2 (.t 3))⟩, ⟨none, (.load 35 1 false (.t 34))⟩, ⟨none, (.len 36 (.t 35))⟩, ⟨none, (.mkslice 37 30 2 16 [(.bool false), (.int .i64 0)] (.t 36) (.t 36))⟩, ⟨none, (.mov 7 (.t 37))⟩]
theorem uf40r36 : type_of% @f40r36.eq_1 := id @f40r36.eq_1
def f40b37 : AQ := (.seq (.region f40r36) f40b35)
theorem uf40b37 (P ts os Q) : awl P f40b37 Q ts os = awl P (.seq (.region f40r36) f40b35) Q ts os := id rfl
def f40r38 : List AI := [⟨none, (.faddr 18 1 (.t 3))⟩, ⟨none, (.load 19 1 false (.t 18))⟩, ⟨none, (.build 20 [(.bool false), (.int .i64 0)] [(0, (1, (.v (.k (.c (.bool true)))))), (1, (1, (.t 19)))])⟩, ⟨none, (.store 2 (.t 4) (.t 20))⟩, ⟨none, (.nilL 5 3 1)⟩]
theorem uf40r38 : type_of% @f40r38.eq_1 := id @f40r38.eq_1
def f40b39 : AQ := (.seq (.region f40r38) .ret)
theorem uf40b39 (P ts os Q) : awl P f40b39 Q ts os = awl P (.seq (.region f40r38) .ret) Q ts os := id rfl
def f40r40o0 : AI := ⟨none, (.build 30 [(.bool false), (.int .i64 0)] [])⟩
theorem uf40r40o0 : f40r40o0 = ⟨none, (.build 30 [(.bool false), (.int .i64 0)] [])⟩ := id rfl
def f40r40o1 : AI := ⟨none, (.faddr 31 1 (.t 3))⟩
theorem uf40r40o1 : f40r40o1 = ⟨none, (.faddr 31 1 (.t 3))⟩ := id rfl
def f40r40o2 : AI := ⟨none, (.load 32 1 false (.t 31))⟩
theorem uf40r40o2 : f40r40o2 = ⟨none, (.load 32 1 false (.t 31))⟩ := id rfl
def f40r40o3 : AI := ⟨none, (.bslice 33 3 1 [(.int .i64 0)] 1 [(0, (.t 32))])⟩
theorem uf40r40o3 : f40r40o3 = ⟨none, (.bslice 33 3 1 [(.int .i64 0)] 1 [(0, (.t 32))])⟩ := id rfl
def f40r40o4 : AI := ⟨none, (.store 2 (.t 4) (.t 30))⟩
theorem uf40r40o4 : f40r40o4 = ⟨none, (.store 2 (.t 4) (.t 30))⟩ := id rfl
def f40r40o5 : AI := ⟨none, (.mov 5 (.t 33))⟩
theorem uf40r40o5 : f40r40o5 = ⟨none, (.mov 5 (.t 33))⟩ := id rfl
def f40r40 : List AI := [f40r40o0, f40r40o1, f40r40o2, f40r40o3, f40r40o4, f40r40o5]
theorem utf40r40 : treeOf f40r40 [[], [], [1], [2], [0, 0], [3, 4, 0, 1, 2, 3, 4]] = (.one f40r40o0 (.alt (.one f40r40o1 (.alt (.one f40r40o2 (.alt (.one f40r40o3 (.one f40r40o4 (.one f40r40o5 .done))) (.alt (.one f40r40o4 (.one f40r40o3 (.one f40r40o5 .done))) .top))) (.alt (.one f40r40o4 (.one f40r40o2 (.one f40r40o3 (.one f40r40o5 .done)))) .top))) (.alt (.one f40r40o4 (.one f40r40o1 (.one f40r40o2 (.one f40r40o3 (.one f40r40o5 .done))))) .top))) := by kernel_rfl
def f40b41 : AQ := (.seq (.tree f40r40 [[], [], [1], [2], [0, 0], [3, 4, 0, 1, 2, 3, 4]]) (.keep [4, 5] [4, 5, 26, 33, 37, 41, 57, 88, 94, 27000, 27001, 27002, 58000, 58001, 58002, 89000, 89001, 89002, 95000, 95001, 95002] .ret))
theorem uf40b41 (P ts os Q) : awl P f40b41 Q ts os = awl P (.seq (.tree f40r40 [[], [], [1], [2], [0, 0], [3, 4, 0, 1, 2, 3, 4]]) (.keep [4, 5] [4, 5, 26, 33, 37, 41, 57, 88, 94, 27000, 27001, 27002, 58000, 58001, 58002, 89000, 89001, 89002, 95000, 95001, 95002] .ret)) Q ts os := id rfl
def f40r42 : List AI := [⟨none, (.load 29 2 true (.t 6))⟩, ⟨none, (.store 2 (.t 4) (.t 29))⟩, ⟨none, (.nilL 5 3 1)⟩]
theorem uf40r42 : type_of% @f40r42.eq_1 := id @f40r42.eq_1
def f40b43 : AQ := (.seq (.region f40r42) .ret)
theorem uf40b43 (P ts os Q) : awl P f40b43 Q ts os = awl P (.seq (.region f40r42) .ret) Q ts os := id rfl
def f40b44 : AQ := (.cond (.t 28) f40b43 .skip)
theorem uf40b44 (P ts os Q) : awl P f40b44 Q ts os = awl P (.cond (.t 28) f40b43 .skip) Q ts os := id rfl
def f40r45 : List AI := [⟨none, (.faddr 27 0 (.t 6))⟩, ⟨none, (.load 28 1 false (.t 27))⟩]
theorem uf40r45 : type_of% @f40r45.eq_1 := id @f40r45.eq_1
def f40b46 : AQ := (.seq (.region f40r45) f40b44)
theorem uf40b46 (P ts os Q) : awl P f40b46 Q ts os = awl P (.seq (.region f40r45) f40b44) Q ts os := id rfl
def f40r47 : List AI := [⟨none, (.load 23 1 true (.t 2))⟩, ⟨none, (.faddr 24 1 (.t 3))⟩, ⟨none, (.load 25 1 false (.t 24))⟩, ⟨none, (.call (some 26) 52 [(.t 23), (.t 25)])⟩, ⟨none, (.alloc 6 30 [(.bool false), (.int .i64 0)])⟩, ⟨none, (.store 2 (.t 6) (.t 26))⟩]
theorem uf40r47 : type_of% @f40r47.eq_1 := id @f40r47.eq_1
def f40b48 : AQ := (.seq (.region f40r47) f40b46)
theorem uf40b48 (P ts os Q) : awl P f40b48 Q ts os = awl P (.seq (.region f40r47) f40b46) Q ts os := id rfl
def f40b49 : AQ := (.seq f40b48 f40b41)
theorem uf40b49 (P ts os Q) : awl P f40b49 Q ts os = awl P (.seq f40b48 f40b41) Q ts os := id rfl
def f40b50 : AQ := (.cond (.t 21) f40b49 .skip)
theorem uf40b50 (P ts os Q) : awl P f40b50 Q ts os = awl P (.cond (.t 21) f40b49 .skip) Q ts os := id rfl
def f40r51 : List AI := [⟨none, (.bin 22 .eql (.t 14) (.v (.k (.c (.int .i64 2)))))⟩, ⟨none, (.mov 21 (.t 22))⟩]
theorem uf40r51 : type_of% @f40r51.eq_1 := id @f40r51.eq_1
def f40b52 : AQ := (.seq (.region f40r51) f40b50)
theorem uf40b52 (P ts os Q) : awl P f40b52 Q ts os = awl P (.seq (.region f40r51) f40b50) Q ts os := id rfl
def f40b53 : AQ := (.cond (.t 15) f40b39 f40b52)
theorem uf40b53 (P ts os Q) : awl P f40b53 Q ts os = awl P (.cond (.t 15) f40b39 f40b52) Q ts os := id rfl
def f40r54 : List AI := [⟨none, (.bin 17 .eql (.t 14) (.v (.k (.c (.int .i64 1)))))⟩, ⟨none, (.mov 15 (.t 17))⟩]
theorem uf40r54 : type_of% @f40r54.eq_1 := id @f40r54.eq_1
def f40b55 : AQ := (.cond (.t 15) .skip (.region f40r54))
theorem uf40b55 (P ts os Q) : awl P f40b55 Q ts os = awl P (.cond (.t 15) .skip (.region f40r54)) Q ts os := id rfl
def f40r56 : List AI := [⟨none, (.bin 16 .eql (.t 14) (.v (.k (.c (.int .i64 0)))))⟩, ⟨none, (.mov 15 (.t 16))⟩]
theorem uf40r56 : type_of% @f40r56.eq_1 := id @f40r56.eq_1
def f40b57 : AQ := (.seq (.region f40r56) f40b55)
theorem uf40b57 (P ts os Q) : awl P f40b57 Q ts os = awl P (.seq (.region f40r56) f40b55) Q ts os := id rfl
def f40b58 : AQ := (.seq f40b57 f40b53)
theorem uf40b58 (P ts os Q) : awl P f40b58 Q ts os = awl P (.seq f40b57 f40b53) Q ts os := id rfl
def f40b59 : AQ := (.block 0 f40b58)
theorem uf40b59 (P ts os Q) : awl P f40b59 Q ts os = awl P (.block 0 f40b58) Q ts os := id rfl
def f40r60 : List AI := [⟨none, (.faddr 13 0 (.t 3))⟩, ⟨none, (.load 14 1 false (.t 13))⟩]
theorem uf40r60 : type_of% @f40r60.eq_1 := id @f40r60.eq_1
def f40b61 : AQ := (.seq (.region f40r60) f40b59)
theorem uf40b61 (P ts os Q) : awl P f40b61 Q ts os = awl P (.seq (.region f40r60) f40b59) Q ts os := id rfl
def f40b62 : AQ := (.seq f40b61 f40b37)
theorem uf40b62 (P ts os Q) : awl P f40b62 Q ts os = awl P (.seq f40b61 f40b37) Q ts os := id rfl
def f40r63 : List AI := [⟨none, (.box 2 73 (.t 0))⟩, ⟨none, (.box 3 50 (.t 1))⟩, ⟨none, (.alloc 4 30 [(.bool false), (.int .i64 0)])⟩, ⟨none, (.nilL 5 3 1)⟩]
theorem uf40r63 : type_of% @f40r63.eq_1 := id @f40r63.eq_1
def f40b64 : AQ := (.seq (.region f40r63) f40b62)
theorem uf40b64 (P ts os Q) : awl P f40b64 Q ts os = awl P (.seq (.region f40r63) f40b62) Q ts os := id rfl
def f40 : AQ := f40b64
theorem uf40 (P ts os Q) : awl P f40 Q ts os = awl P f40b64 Q ts os := id rfl
theorem hf40 : cFunc Tryd.prog 40 = some ⟨95, f40.erase, [(RX.cell 4 2 true), (RX.t 5)]⟩ := by kernel_rfl
theorem okf40 : f40.ok = true := by kernel_rfl
def f41r1 : List AI := [⟨none, (.load 7 3 true (.t 1))⟩, ⟨none, (.call (some 8) 55 [(.t 7)])⟩, ⟨none, (.extr 9 (.t 8) 0)⟩, ⟨none, (.extr 10 (.t 8) 1)⟩, ⟨none, (.mov 2 (.t 9))⟩, ⟨none, (.mov 3 (.t 10))⟩]
theorem uf41r1 : type_of% @f41r1.eq_1 := id @f41r1.eq_1
def f41b2 : AQ := (.seq (.region f41r1) .ret)
theorem uf41b2 (P ts os Q) : awl P f41b2 Q ts os = awl P (.seq (.region f41r1) .ret) Q ts os := id rfl
def f41r3 : List AI := [⟨none, (.mov 2 (.v (.k (.c (.int .i64 0)))))⟩, ⟨none, (.mov 3 (.v (.k (.c (.int .i64 6)))))⟩]
theorem uf41r3 : type_of% @f41r3.eq_1 := id @f41r3.eq_1
def f41b4 : AQ := (.seq (.region f41r3) .ret)
theorem uf41b4 (P ts os Q) : awl P f41b4 Q ts os = awl P (.seq (.region f41r3) .ret) Q ts os := id rfl
def f41b5 : AQ := (.cond (.t 6) f41b4 .skip)
theorem uf41b5 (P ts os Q) : awl P f41b5 Q ts os = awl P (.cond (.t 6) f41b4 .skip) Q ts os := id rfl
def f41r6 : List AI := [⟨none, (.load 4 3 true (.t 1))⟩, ⟨none, (.call (some 5) 36 [(.t 4), (.v (.k (.c (.int .i64 60)))), (.v (.k (.c (.int .i64 8))))])⟩, ⟨none, (.bin 6 .lss (.t 5) (.v (.k (.c (.int .i64 0)))))⟩]
theorem uf41r6 : type_of% @f41r6.eq_1 := id @f41r6.eq_1
def f41b7 : AQ := (.seq (.region f41r6) f41b5)
theorem uf41b7 (P ts os Q) : awl P f41b7 Q ts os = awl P (.seq (.region f41r6) f41b5) Q ts os := id rfl
def f41b8 : AQ := (.seq f41b7 f41b2)
theorem uf41b8 (P ts os Q) : awl P f41b8 Q ts os = awl P (.seq f41b7 f41b2) Q ts os := id rfl
def f41r9 : List AI := [⟨none, (.box 1 50 (.t 0))⟩, ⟨none, (.mov 2 (.v (.k (.c (.int .i64 0)))))⟩, ⟨none, (.mov 3 (.v (.k (.c (.int .i64 0)))))⟩]
theorem uf41r9 : type_of% @f41r9.eq_1 := id @f41r9.eq_1
def f41b10 : AQ := (.seq (.region f41r9) f41b8)
theorem uf41b10 (P ts os Q) : awl P f41b10 Q ts os = awl P (.seq (.region f41r9) f41b8) Q ts os := id rfl
def f41 : AQ := f41b10
theorem uf41 (P ts os Q) : awl P f41 Q ts os = awl P f41b10 Q ts os := id rfl
theorem hf41 : cFunc Tryd.prog 41 = some ⟨11, f41.erase, [(RX.t 2), (RX.t 3)]⟩ := by kernel_rfl
theorem okf41 : f41.ok = true := by kernel_rfl
def f42r1 : List AI := [⟨none, (.faddr 125 0 (.t 2))⟩, ⟨none, (.load 126 1 false (.t 125))⟩, ⟨none, (.mov 127 (.t 5))⟩, ⟨none, (.iaddr 128 2 (.t 127) (.v (.k (.c (.int .i64 0)))))⟩, ⟨none, (.faddr 129 1 (.t 128))⟩, ⟨none, (.load 130 1 false (.t 129))⟩, ⟨none, (.mov 131 (.t 5))⟩, ⟨none, (.iaddr 132 2 (.t 131) (.v (.k (.c (.int .i64 1)))))⟩, ⟨none, (.faddr 133 1 (.t 132))⟩, ⟨none, (.load 134 1 false (.t 133))⟩, ⟨none, (.call (some 135) 58 [(.t 126), (.t 130), (.t 134)])⟩, ⟨none, (.store 2 (.t 4) (.t 135))⟩]
theorem uf42r1 : type_of% @f42r1.eq_1 := id @f42r1.eq_1
def f42b2 : AQ := (.seq (.draw f42r1 [[], [0], [], [2], [3], [4], [], [6], [7], [8], [1, 5, 9], [10, 10, 0, 1, 2, 3, 4, 5, 6, 7, 8, 9, 10]]) .ret)
theorem uf42b2 (P ts os Q) : awl P f42b2 Q ts os = awl P (.seq (.draw f42r1 [[], [0], [], [2], [3], [4], [], [6], [7], [8], [1, 5, 9], [10, 10, 0, 1, 2, 3, 4, 5, 6, 7, 8, 9, 10]]) .ret) Q ts os := id rfl
def f42r3 : List AI := [⟨none, (.build 124 [(.bool false), (.int .i64 0)] [])⟩, ⟨none, (.store 2 (.t 4) (.t 124))⟩]
theorem uf42r3 : type_of% @f42r3.eq_1 := id @f42r3.eq_1
def f42b4 : AQ := (.seq (.region f42r3) .ret)
theorem uf42b4 (P ts os Q) : awl P f42b4 Q ts os = awl P (.seq (.region f42r3) .ret) Q ts os := id rfl
def f42b5 : AQ := (.cond (.t 123) f42b4 .skip)
theorem uf42b5 (P ts os Q) : awl P f42b5 Q ts os = awl P (.cond (.t 123) f42b4 .skip) Q ts os := id rfl
def f42r6 : List AI := [⟨none, (.mov 112 (.t 5))⟩, ⟨none, (.iaddr 113 2 (.t 112) (.v (.k (.c (.int .i64 0)))))⟩, ⟨none, (.faddr 114 0 (.t 113))⟩, ⟨none, (.load 115 1 false (.t 114))⟩, ⟨none, (.un 116 .not (.t 115))⟩, ⟨none, (.mov 117 (.t 116))⟩, ⟨(some (117, false)), (.mov 118 (.t 5))⟩, ⟨(some (117, false)), (.iaddr 119 2 (.t 118) (.v (.k (.c (.int .i64 1)))))⟩, ⟨(some (117, false)), (.faddr 120 0 (.t 119))⟩, ⟨(some (117, false)), (.load 121 1 false (.t 120))⟩, ⟨(some (117, false)), (.un 122 .not (.t 121))⟩, ⟨none, (.pick 123 (.t 117) (.v (.k (.c (.bool true)))) (.t 122))⟩]
theorem uf42r6 : type_of% @f42r6.eq_1 := id @f42r6.eq_1
def f42b7 : AQ := (.seq (.region f42r6) f42b5)
theorem uf42b7 (P ts os Q) : awl P f42b7 Q ts os = awl P (.seq (.region f42r6) f42b5) Q ts os := id rfl
def f42b8 : AQ := (.seq f42b7 f42b2)
theorem uf42b8 (P ts os Q) : awl P f42b8 Q ts os = awl P (.seq f42b7 f42b2) Q ts os := id rfl
def f42r9 : List AI := [⟨none, (.mov 49 (.t 5))⟩, ⟨none, (.iaddr 50 2 (.t 49) (.v (.k (.c (.int .i64 0)))))⟩, ⟨none, (.faddr 51 1 (.t 50))⟩, ⟨none, (.load 52 1 false (.t 51))⟩, ⟨none, (.bin 53 .sub (.v (.k (.c (.int .i64 1)))) (.t 52))⟩, ⟨none, (.build 54 [(.bool false), (.int .i64 0)] [(0, (1, (.v (.k (.c (.bool true)))))), (1, (1, (.t 53)))])⟩, ⟨none, (.store 2 (.t 4) (.t 54))⟩]
theorem uf42r9 : type_of% @f42r9.eq_1 := id @f42r9.eq_1
def f42b10 : AQ := (.seq (.region f42r9) .ret)
theorem uf42b10 (P ts os Q) : awl P f42b10 Q ts os = awl P (.seq (.region f42r9) .ret) Q ts os := id rfl
def f42r11 : List AI := [⟨none, (.build 48 [(.bool false), (.int .i64 0)] [])⟩, ⟨none, (.store 2 (.t 4) (.t 48))⟩]
theorem uf42r11 : type_of% @f42r11.eq_1 := id @f42r11.eq_1
def f42b12 : AQ := (.seq (.region f42r11) .ret)
theorem uf42b12 (P ts os Q) : awl P f42b12 Q ts os = awl P (.seq (.region f42r11) .ret) Q ts os := id rfl
def f42b13 : AQ := (.cond (.t 47) f42b12 .skip)
theorem uf42b13 (P ts os Q) : awl P f42b13 Q ts os = awl P (.cond (.t 47) f42b12 .skip) Q ts os := id rfl
def f42r14 : List AI := [⟨none, (.mov 43 (.t 5))⟩, ⟨none, (.iaddr 44 2 (.t 43) (.v (.k (.c (.int .i64 0)))))⟩, ⟨none, (.faddr 45 0 (.t 44))⟩, ⟨none, (.load 46 1 false (.t 45))⟩, ⟨none, (.un 47 .not (.t 46))⟩]
theorem uf42r14 : type_of% @f42r14.eq_1 := id @f42r14.eq_1
def f42b15 : AQ := (.seq (.region f42r14) f42b13)
theorem uf42b15 (P ts os Q) : awl P f42b15 Q ts os = awl P (.seq (.region f42r14) f42b13) Q ts os := id rfl
def f42b16 : AQ := (.seq f42b15 f42b10)
theorem uf42b16 (P ts os Q) : awl P f42b16 Q ts os = awl P (.seq f42b15 f42b10) Q ts os := id rfl
def f42r17 : List AI := [⟨none, (.mov 57 (.t 5))⟩, ⟨none, (.iaddr 58 2 (.t 57) (.v (.k (.c (.int .i64 0)))))⟩, ⟨none, (.load 59 2 true (.t 58))⟩, ⟨none, (.mov 60 (.t 5))⟩, ⟨none, (.iaddr 61 2 (.t 60) (.v (.k (.c (.int .i64 1)))))⟩, ⟨none, (.load 62 2 true (.t 61))⟩, ⟨none, (.call (some 63) 57 [(.t 59), (.t 62), (.v (.k (.c (.int .i64 0))))])⟩, ⟨none, (.store 2 (.t 4) (.t 63))⟩]
theorem uf42r17 : type_of% @f42r17.eq_1 := id @f42r17.eq_1
def f42b18 : AQ := (.seq (.draw f42r17 [[], [0], [1], [], [3], [4], [2, 5], [6, 6, 0, 1, 2, 3, 4, 5, 6]]) .ret)
theorem uf42b18 (P ts os Q) : awl P f42b18 Q ts os = awl P (.seq (.draw f42r17 [[], [0], [1], [], [3], [4], [2, 5], [6, 6, 0, 1, 2, 3, 4, 5, 6]]) .ret) Q ts os := id rfl
def f42r19 : List AI := [⟨none, (.mov 66 (.t 5))⟩, ⟨none, (.iaddr 67 2 (.t 66) (.v (.k (.c (.int .i64 0)))))⟩, ⟨none, (.load 68 2 true (.t 67))⟩, ⟨none, (.mov 69 (.t 5))⟩, ⟨none, (.iaddr 70 2 (.t 69) (.v (.k (.c (.int .i64 1)))))⟩, ⟨none, (.load 71 2 true (.t 70))⟩, ⟨none, (.call (some 72) 57 [(.t 68), (.t 71), (.v (.k (.c (.int .i64 1))))])⟩, ⟨none, (.store 2 (.t 4) (.t 72))⟩]
theorem uf42r19 : type_of% @f42r19.eq_1 := id @f42r19.eq_1
def f42b20 : AQ := (.seq (.draw f42r19 [[], [0], [1], [], [3], [4], [2, 5], [6, 6, 0, 1, 2, 3, 4, 5, 6]]) .ret)
theorem uf42b20 (P ts os Q) : awl P f42b20 Q ts os = awl P (.seq (.draw f42r19 [[], [0], [1], [], [3], [4], [2, 5], [6, 6, 0, 1, 2, 3, 4, 5, 6]]) .ret) Q ts os := id rfl
def f42r21 : List AI := [⟨none, (.build 111 [(.bool false), (.int .i64 0)] [])⟩, ⟨none, (.store 2 (.t 4) (.t 111))⟩]
theorem uf42r21 : type_of% @f42r21.eq_1 := id @f42r21.eq_1
def f42b22 : AQ := (.seq (.region f42r21) .ret)
theorem uf42b22 (P ts os Q) : awl P f42b22 Q ts os = awl P (.seq (.region f42r21) .ret) Q ts os := id rfl
def f42r23 : List AI := [⟨none, (.mov 108 (.t 5))⟩, ⟨none, (.iaddr 109 2 (.t 108) (.v (.k (.c (.int .i64 1)))))⟩, ⟨none, (.load 110 2 true (.t 109))⟩, ⟨none, (.store 2 (.t 4) (.t 110))⟩]
theorem uf42r23 : type_of% @f42r23.eq_1 := id @f42r23.eq_1
def f42b24 : AQ := (.seq (.region f42r23) .ret)
theorem uf42b24 (P ts os Q) : awl P f42b24 Q ts os = awl P (.seq (.region f42r23) .ret) Q ts os := id rfl
def f42b25 : AQ := (.cond (.t 107) f42b24 .skip)
theorem uf42b25 (P ts os Q) : awl P f42b25 Q ts os = awl P (.cond (.t 107) f42b24 .skip) Q ts os := id rfl
def f42r26 : List AI := [⟨none, (.mov 87 (.t 5))⟩, ⟨none, (.iaddr 88 2 (.t 87) (.v (.k (.c (.int .i64 1)))))⟩, ⟨none, (.faddr 89 0 (.t 88))⟩, ⟨none, (.load 90 1 false (.t 89))⟩, ⟨none, (.mov 91 (.t 90))⟩, ⟨(some (91, true)), (.mov 92 (.t 5))⟩, ⟨(some (91, true)), (.iaddr 93 2 (.t 92) (.v (.k (.c (.int .i64 2)))))⟩, ⟨(some (91, true)), (.faddr 94 0 (.t 93))⟩, ⟨(some (91, true)), (.load 95 1 false (.t 94))⟩, ⟨none, (.pick 96 (.t 91) (.t 95) (.v (.k (.c (.bool false)))))⟩, ⟨none, (.mov 97 (.t 96))⟩, ⟨(some (97, true)), (.mov 98 (.t 5))⟩, ⟨(some (97, true)), (.iaddr 99 2 (.t 98) (.v (.k (.c (.int .i64 1)))))⟩, ⟨(some (97, true)), (.faddr 100 1 (.t 99))⟩, ⟨(some (97, true)), (.load 101 1 false (.t 100))⟩, ⟨(some (97, true)), (.mov 102 (.t 5))⟩, ⟨(some (97, true)), (.iaddr 103 2 (.t 102) (.v (.k (.c (.int .i64 2)))))⟩, ⟨(some (97, true)), (.faddr 104 1 (.t 103))⟩, ⟨(some (97, true)), (.load 105 1 false (.t 104))⟩, ⟨(some (97, true)), (.bin 106 .eql (.t 101) (.t 105))⟩, ⟨none, (.pick 107 (.t 97) (.t 106) (.v (.k (.c (.bool false)))))⟩]
theorem uf42r26 : type_of% @f42r26.eq_1 := id @f42r26.eq_1
def f42b27 : AQ := (.seq (.draw f42r26 [[], [0], [1], [2], [3], [4], [5, 4], [6, 4], [7, 4], [4, 8], [9, 4], [10], [11, 10], [12, 10], [13, 10], [10], [15, 10], [16, 10], [17, 10], [14, 18, 10], [10, 19]]) f42b25)
theorem uf42b27 (P ts os Q) : awl P f42b27 Q ts os = awl P (.seq (.draw f42r26 [[], [0], [1], [2], [3], [4], [5, 4], [6, 4], [7, 4], [4, 8], [9, 4], [10], [11, 10], [12, 10], [13, 10], [10], [15, 10], [16, 10], [17, 10], [14, 18, 10], [10, 19]]) f42b25) Q ts os := id rfl
def f42b28 : AQ := (.seq f42b27 f42b22)
theorem uf42b28 (P ts os Q) : awl P f42b28 Q ts os = awl P (.seq f42b27 f42b22) Q ts os := id rfl
def f42r29 : List AI := [⟨none, (.mov 79 (.t 5))⟩, ⟨none, (.mov 80 (.t 5))⟩, ⟨none, (.iaddr 81 2 (.t 80) (.v (.k (.c (.int .i64 0)))))⟩, ⟨none, (.faddr 82 1 (.t 81))⟩, ⟨none, (.load 83 1 false (.t 82))⟩, ⟨none, (.bin 84 .sub (.v (.k (.c (.int .i64 2)))) (.t 83))⟩, ⟨none, (.iaddr 85 2 (.t 79) (.t 84))⟩, ⟨none, (.load 86 2 true (.t 85))⟩, ⟨none, (.store 2 (.t 4) (.t 86))⟩]
theorem uf42r29 : type_of% @f42r29.eq_1 := id @f42r29.eq_1
def f42b30 : AQ := (.seq (.region f42r29) .ret)
theorem uf42b30 (P ts os Q) : awl P f42b30 Q ts os = awl P (.seq (.region f42r29) .ret) Q ts os := id rfl
def f42b31 : AQ := (.cond (.t 78) f42b30 .skip)
theorem uf42b31 (P ts os Q) : awl P f42b31 Q ts os = awl P (.cond (.t 78) f42b30 .skip) Q ts os := id rfl
def f42r32 : List AI := [⟨none, (.mov 75 (.t 5))⟩, ⟨none, (.iaddr 76 2 (.t 75) (.v (.k (.c (.int .i64 0)))))⟩, ⟨none, (.faddr 77 0 (.t 76))⟩, ⟨none, (.load 78 1 false (.t 77))⟩]
theorem uf42r32 : type_of% @f42r32.eq_1 := id @f42r32.eq_1
def f42b33 : AQ := (.seq (.region f42r32) f42b31)
theorem uf42b33 (P ts os Q) : awl P f42b33 Q ts os = awl P (.seq (.region f42r32) f42b31) Q ts os := id rfl
def f42b34 : AQ := (.seq f42b33 f42b28)
theorem uf42b34 (P ts os Q) : awl P f42b34 Q ts os = awl P (.seq f42b33 f42b28) Q ts os := id rfl
def f42b35 : AQ := (.cond (.t 73) f42b34 .skip)
theorem uf42b35 (P ts os Q) : awl P f42b35 Q ts os = awl P (.cond (.t 73) f42b34 .skip) Q ts os := id rfl
def f42r36 : List AI := [⟨none, (.bin 74 .eql (.t 40) (.v (.k (.c (.int .i64 6)))))⟩, ⟨none, (.mov 73 (.t 74))⟩]
theorem uf42r36 : type_of% @f42r36.eq_1 := id @f42r36.eq_1
def f42b37 : AQ := (.seq (.region f42r36) f42b35)
theorem uf42b37 (P ts os Q) : awl P f42b37 Q ts os = awl P (.seq (.region f42r36) f42b35) Q ts os := id rfl
def f42b38 : AQ := (.cond (.t 64) f42b20 f42b37)
theorem uf42b38 (P ts os Q) : awl P f42b38 Q ts os = awl P (.cond (.t 64) f42b20 f42b37) Q ts os := id rfl
def f42r39 : List AI := [⟨none, (.bin 65 .eql (.t 40) (.v (.k (.c (.int .i64 5)))))⟩, ⟨none, (.mov 64 (.t 65))⟩]
theorem uf42r39 : type_of% @f42r39.eq_1 := id @f42r39.eq_1
def f42b40 : AQ := (.seq (.region f42r39) f42b38)
theorem uf42b40 (P ts os Q) : awl P f42b40 Q ts os = awl P (.seq (.region f42r39) f42b38) Q ts os := id rfl
def f42b41 : AQ := (.cond (.t 55) f42b18 f42b40)
theorem uf42b41 (P ts os Q) : awl P f42b41 Q ts os = awl P (.cond (.t 55) f42b18 f42b40) Q ts os := id rfl
def f42r42 : List AI := [⟨none, (.bin 56 .eql (.t 40) (.v (.k (.c (.int .i64 4)))))⟩, ⟨none, (.mov 55 (.t 56))⟩]
theorem uf42r42 : type_of% @f42r42.eq_1 := id @f42r42.eq_1
def f42b43 : AQ := (.seq (.region f42r42) f42b41)
theorem uf42b43 (P ts os Q) : awl P f42b43 Q ts os = awl P (.seq (.region f42r42) f42b41) Q ts os := id rfl
def f42b44 : AQ := (.cond (.t 41) f42b16 f42b43)
theorem uf42b44 (P ts os Q) : awl P f42b44 Q ts os = awl P (.cond (.t 41) f42b16 f42b43) Q ts os := id rfl
def f42r45 : List AI := [⟨none, (.bin 42 .eql (.t 40) (.v (.k (.c (.int .i64 3)))))⟩, ⟨none, (.mov 41 (.t 42))⟩]
theorem uf42r45 : type_of% @f42r45.eq_1 := id @f42r45.eq_1
def f42b46 : AQ := (.seq (.region f42r45) f42b44)
theorem uf42b46 (P ts os Q) : awl P f42b46 Q ts os = awl P (.seq (.region f42r45) f42b44) Q ts os := id rfl
def f42b47 : AQ := (.block 3 f42b46)
theorem uf42b47 (P ts os Q) : awl P f42b47 Q ts os = awl P (.block 3 f42b46) Q ts os := id rfl
def f42r48 : List AI := [⟨none, (.faddr 39 0 (.t 2))⟩, ⟨none, (.load 40 1 false (.t 39))⟩]
theorem uf42r48 : type_of% @f42r48.eq_1 := id @f42r48.eq_1
def f42b49 : AQ := (.seq (.region f42r48) f42b47)
theorem uf42b49 (P ts os Q) : awl P f42b49 Q ts os = awl P (.seq (.region f42r48) f42b47) Q ts os := id rfl
def f42b50 : AQ := (.seq f42b49 f42b8)
theorem uf42b50 (P ts os Q) : awl P f42b50 Q ts os = awl P (.seq f42b49 f42b8) Q ts os := id rfl
def f42r51 : List AI := [⟨none, (.mov 27 (.t 6))⟩, ⟨none, (.bin 28 .add (.t 27) (.v (.k (.c (.int .i64 1)))))⟩, ⟨none, (.mov 6 (.t 28))⟩]
theorem uf42r51 : type_of% @f42r51.eq_1 := id @f42r51.eq_1
def f42r52 : List AI := [⟨none, (.mov 29 (.t 5))⟩, ⟨none, (.faddr 30 2 (.t 2))⟩, ⟨none, (.load 31 1 false (.t 30))⟩, ⟨none, (.mov 32 (.t 6))⟩, ⟨none, (.iaddr 33 3 (.t 31) (.t 32))⟩, ⟨none, (.load 34 3 true (.t 33))⟩, ⟨none, (.mov 35 (.t 1))⟩, ⟨none, (.call (some 36) 42 [(.t 34), (.t 35)])⟩, ⟨none, (.bslice 37 30 2 [(.bool false), (.int .i64 0)] 1 [(0, (.t 36))])⟩, ⟨none, (.append 38 30 2 16 (.t 29) (.t 37))⟩, ⟨none, (.mov 5 (.t 38))⟩]
theorem uf42r52 : type_of% @f42r52.eq_1 := id @f42r52.eq_1
def f42b53 : AQ := (.block 2 (.region f42r52))
theorem uf42b53 (P ts os Q) : awl P f42b53 Q ts os = awl P (.block 2 (.region f42r52)) Q ts os := id rfl
def f42b54 : AQ := (.seq f42b53 (.region f42r51))
theorem uf42b54 (P ts os Q) : awl P f42b54 Q ts os = awl P (.seq f42b53 (.region f42r51)) Q ts os := id rfl
def f42b55 : AQ := (.cond (.t 26) .skip (.exit 1))
theorem uf42b55 (P ts os Q) : awl P f42b55 Q ts os = awl P (.cond (.t 26) .skip (.exit 1)) Q ts os := id rfl
def f42r56 : List AI := [⟨none, (.mov 22 (.t 6))⟩, ⟨none, (.faddr 23 2 (.t 2))⟩, ⟨none, (.load 24 1 false (.t 23))⟩, ⟨none, (.len 25 (.t 24))⟩, ⟨none, (.bin 26 .lss (.t 22) (.t 25))⟩]
theorem uf42r56 : type_of% @f42r56.eq_1 := id @f42r56.eq_1
def f42b57 : AQ := (.seq (.region f42r56) f42b55)
theorem uf42b57 (P ts os Q) : awl P f42b57 Q ts os = awl P (.seq (.region f42r56) f42b55) Q ts os := id rfl
def f42b58 : AQ := (.seq f42b57 f42b54)
theorem uf42b58 (P ts os Q) : awl P f42b58 Q ts os = awl P (.seq f42b57 f42b54) Q ts os := id rfl
def f42l59 : AQ := .loop [1, 2, 4, 5, 6] [2, 4, 20, 21, 38, 63, 72, 135, 21000, 21001, 21002, 64000, 64001, 64002, 73000, 73001, 73002, 136000, 136001, 136002] f42b58
theorem uf42l59 (P ts os Q) : awl P f42l59 Q ts os = awl P (.loop [1, 2, 4, 5, 6] [2, 4, 20, 21, 38, 63, 72, 135, 21000, 21001, 21002, 64000, 64001, 64002, 73000, 73001, 73002, 136000, 136001, 136002] f42b58) Q ts os := id rfl
def f42b60 : AQ := (.block 1 f42l59)
theorem uf42b60 (P ts os Q) : awl P f42b60 Q ts os = awl P (.block 1 f42l59) Q ts os := id rfl
def f42r61 : List AI := [⟨none, (.mov 6 (.v (.k (.c (.int .i64 0)))))⟩]
theorem uf42r61 : type_of% @f42r61.eq_1 := id @f42r61.eq_1
def f42b62 : AQ := (.seq (.region f42r61) f42b60)
theorem uf42b62 (P ts os Q) : awl P f42b62 Q ts os = awl P (.seq (.region f42r61) f42b60) Q ts os := id rfl
def f42b63 : AQ := (.seq f42b62 f42b50)
theorem uf42b63 (P ts os Q) : awl P f42b63 Q ts os = awl P (.seq f42b62 f42b50) Q ts os := id rfl
def f42r64 : List AI := [⟨none, (.bslice 21 30 2 [(.bool false), (.int .i64 0)] 0 [])⟩, ⟨none, (.mov 5 (.t 21))⟩]
theorem uf42r64 : type_of% @f42r64.eq_1 := id @f42r64.eq_1
def f42b65 : AQ := (.seq (.region f42r64) f42b63)
theorem uf42b65 (P ts os Q) : awl P f42b65 Q ts os = awl P (.seq (.region f42r64) f42b63) Q ts os := id rfl
def f42r66 : List AI := [⟨none, (.faddr 12 1 (.t 2))⟩, ⟨none, (.load 13 1 false (.t 12))⟩, ⟨none, (.build 14 [(.bool false), (.int .i64 0)] [(0, (1, (.v (.k (.c (.bool true)))))), (1, (1, (.t 13)))])⟩, ⟨none, (.store 2 (.t 4) (.t 14))⟩]
theorem uf42r66 : type_of% @f42r66.eq_1 := id @f42r66.eq_1
def f42b67 : AQ := (.seq (.region f42r66) .ret)
theorem uf42b67 (P ts os Q) : awl P f42b67 Q ts os = awl P (.seq (.region f42r66) .ret) Q ts os := id rfl
def f42r68 : List AI := [⟨none, (.faddr 17 1 (.t 2))⟩, ⟨none, (.load 18 1 false (.t 17))⟩, ⟨none, (.mov 19 (.t 1))⟩, ⟨none, (.call (some 20) 56 [(.t 18), (.t 19)])⟩, ⟨none, (.store 2 (.t 4) (.t 20))⟩]
theorem uf42r68 : type_of% @f42r68.eq_1 := id @f42r68.eq_1
def f42b69 : AQ := (.seq (.region f42r68) .ret)
theorem uf42b69 (P ts os Q) : awl P f42b69 Q ts os = awl P (.seq (.region f42r68) .ret) Q ts os := id rfl
def f42b70 : AQ := (.cond (.t 15) f42b69 .skip)
theorem uf42b70 (P ts os Q) : awl P f42b70 Q ts os = awl P (.cond (.t 15) f42b69 .skip) Q ts os := id rfl
def f42r71 : List AI := [⟨none, (.bin 16 .eql (.t 8) (.v (.k (.c (.int .i64 2)))))⟩, ⟨none, (.mov 15 (.t 16))⟩]
theorem uf42r71 : type_of% @f42r71.eq_1 := id @f42r71.eq_1
def f42b72 : AQ := (.seq (.region f42r71) f42b70)
theorem uf42b72 (P ts os Q) : awl P f42b72 Q ts os = awl P (.seq (.region f42r71) f42b70) Q ts os := id rfl
def f42b73 : AQ := (.cond (.t 9) f42b67 f42b72)
theorem uf42b73 (P ts os Q) : awl P f42b73 Q ts os = awl P (.cond (.t 9) f42b67 f42b72) Q ts os := id rfl
def f42r74 : List AI := [⟨none, (.bin 11 .eql (.t 8) (.v (.k (.c (.int .i64 1)))))⟩, ⟨none, (.mov 9 (.t 11))⟩]
theorem uf42r74 : type_of% @f42r74.eq_1 := id @f42r74.eq_1
def f42b75 : AQ := (.cond (.t 9) .skip (.region f42r74))
theorem uf42b75 (P ts os Q) : awl P f42b75 Q ts os = awl P (.cond (.t 9) .skip (.region f42r74)) Q ts os := id rfl
def f42r76 : List AI := [⟨none, (.bin 10 .eql (.t 8) (.v (.k (.c (.int .i64 0)))))⟩, ⟨none, (.mov 9 (.t 10))⟩]
theorem uf42r76 : type_of% @f42r76.eq_1 := id @f42r76.eq_1
def f42b77 : AQ := (.seq (.region f42r76) f42b75)
theorem uf42b77 (P ts os Q) : awl P f42b77 Q ts os = awl P (.seq (.region f42r76) f42b75) Q ts os := id rfl
def f42b78 : AQ := (.seq f42b77 f42b73)
theorem uf42b78 (P ts os Q) : awl P f42b78 Q ts os = awl P (.seq f42b77 f42b73) Q ts os := id rfl
def f42b79 : AQ := (.block 0 f42b78)
theorem uf42b79 (P ts os Q) : awl P f42b79 Q ts os = awl P (.block 0 f42b78) Q ts os := id rfl
def f42r80 : List AI := [⟨none, (.faddr 7 0 (.t 2))⟩, ⟨none, (.load 8 1 false (.t 7))⟩]
theorem uf42r80 : type_of% @f42r80.eq_1 := id @f42r80.eq_1
def f42b81 : AQ := (.seq (.region f42r80) f42b79)
theorem uf42b81 (P ts os Q) : awl P f42b81 Q ts os = awl P (.seq (.region f42r80) f42b79) Q ts os := id rfl
def f42b82 : AQ := (.seq f42b81 f42b65)
theorem uf42b82 (P ts os Q) : awl P f42b82 Q ts os = awl P (.seq f42b81 f42b65) Q ts os := id rfl
def f42r83 : List AI := [⟨none, (.box 2 50 (.t 0))⟩, ⟨none, (.alloc 4 30 [(.bool false), (.int .i64 0)])⟩]
theorem uf42r83 : type_of% @f42r83.eq_1 := id @f42r83.eq_1
def f42b84 : AQ := (.seq (.region f42r83) f42b82)
theorem uf42b84 (P ts os Q) : awl P f42b84 Q ts os = awl P (.seq (.region f42r83) f42b82) Q ts os := id rfl
def f42 : AQ := f42b84
theorem uf42 (P ts os Q) : awl P f42 Q ts os = awl P f42b84 Q ts os := id rfl
theorem hf42 : cFunc Tryd.prog 42 = some ⟨136, f42.erase, [(RX.cell 4 2 true)]⟩ := by kernel_rfl
theorem okf42 : f42.ok = true := by kernel_rfl
def f43r1 : List AI := [⟨none, (.mov 7 (.t 1))⟩, ⟨none, (.mov 8 (.t 0))⟩, ⟨none, (.bin 9 .leq (.t 7) (.t 8))⟩, ⟨none, (.mov 10 (.t 9))⟩, ⟨(some (10, true)), (.mov 11 (.t 0))⟩, ⟨(some (10, true)), (.mov 12 (.t 2))⟩, ⟨(some (10, true)), (.bin 13 .leq (.t 11) (.t 12))⟩, ⟨none, (.pick 14 (.t 10) (.t 13) (.v (.k (.c (.bool false)))))⟩, ⟨none, (.mov 6 (.t 14))⟩]
theorem uf43r1 : type_of% @f43r1.eq_1 := id @f43r1.eq_1
def f43b2 : AQ := (.seq (.region f43r1) .ret)
theorem uf43b2 (P ts os Q) : awl P f43b2 Q ts os = awl P (.seq (.region f43r1) .ret) Q ts os := id rfl
def f43r3 : List AI := [⟨none, (.mov 6 (.v (.k (.c (.bool false)))))⟩]
theorem uf43r3 : type_of% @f43r3.eq_1 := id @f43r3.eq_1
def f43b4 : AQ := (.seq (.region f43r3) f43b2)
theorem uf43b4 (P ts os Q) : awl P f43b4 Q ts os = awl P (.seq (.region f43r3) f43b2) Q ts os := id rfl
def f43 : AQ := f43b4
theorem uf43 (P ts os Q) : awl P f43 Q ts os = awl P f43b4 Q ts os := id rfl
theorem hf43 : cFunc Tryd.prog 43 = some ⟨15, f43.erase, [(RX.t 6)]⟩ := by kernel_rfl
theorem okf43 : f43.ok = true := by kernel_rfl
def f47r1 : List AI := [⟨none, (.mov 6 (.v (.k (.c (.bool false)))))⟩]
theorem uf47r1 : type_of% @f47r1.eq_1 := id @f47r1.eq_1
def f47b2 : AQ := (.seq (.region f47r1) .ret)
theorem uf47b2 (P ts os Q) : awl P f47b2 Q ts os = awl P (.seq (.region f47r1) .ret) Q ts os := id rfl
def f47r3 : List AI := [⟨none, (.mov 49 (.t 9))⟩, ⟨none, (.bin 50 .add (.t 49) (.v (.k (.c (.int .i64 1)))))⟩, ⟨none, (.mov 9 (.t 50))⟩]
theorem uf47r3 : type_of% @f47r3.eq_1 := id @f47r3.eq_1
def f47r4 : List AI := [⟨none, (.mov 6 (.v (.k (.c (.bool true)))))⟩]
theorem uf47r4 : type_of% @f47r4.eq_1 := id @f47r4.eq_1
def f47b5 : AQ := (.seq (.region f47r4) .ret)
theorem uf47b5 (P ts os Q) : awl P f47b5 Q ts os = awl P (.seq (.region f47r4) .ret) Q ts os := id rfl
def f47b6 : AQ := (.cond (.t 59) f47b5 .skip)
theorem uf47b6 (P ts os Q) : awl P f47b6 Q ts os = awl P (.cond (.t 59) f47b5 .skip) Q ts os := id rfl
def f47r7 : List AI := [⟨none, (.mov 59 (.t 10))⟩]
theorem uf47r7 : type_of% @f47r7.eq_1 := id @f47r7.eq_1
def f47b8 : AQ := (.seq (.region f47r7) f47b6)
theorem uf47b8 (P ts os Q) : awl P f47b8 Q ts os = awl P (.seq (.region f47r7) f47b6) Q ts os := id rfl
def f47r9 : List AI := [⟨none, (.faddr 51 2 (.t 3))⟩, ⟨none, (.load 52 1 false (.t 51))⟩, ⟨none, (.mov 53 (.t 9))⟩, ⟨none, (.iaddr 54 3 (.t 52) (.t 53))⟩, ⟨none, (.load 55 3 true (.t 54))⟩, ⟨none, (.mov 56 (.t 1))⟩, ⟨none, (.mov 57 (.t 2))⟩, ⟨none, (.call (some 58) 47 [(.t 55), (.t 56), (.t 57)])⟩, ⟨none, (.mov 10 (.t 58))⟩]
theorem uf47r9 : type_of% @f47r9.eq_1 := id @f47r9.eq_1
def f47b10 : AQ := (.seq (.region f47r9) f47b8)
theorem uf47b10 (P ts os Q) : awl P f47b10 Q ts os = awl P (.seq (.region f47r9) f47b8) Q ts os := id rfl
def f47b11 : AQ := (.block 1 f47b10)
theorem uf47b11 (P ts os Q) : awl P f47b11 Q ts os = awl P (.block 1 f47b10) Q ts os := id rfl
def f47b12 : AQ := (.seq f47b11 (.region f47r3))
theorem uf47b12 (P ts os Q) : awl P f47b12 Q ts os = awl P (.seq f47b11 (.region f47r3)) Q ts os := id rfl
def f47b13 : AQ := (.cond (.t 48) .skip (.exit 0))
theorem uf47b13 (P ts os Q) : awl P f47b13 Q ts os = awl P (.cond (.t 48) .skip (.exit 0)) Q ts os := id rfl
def f47r14 : List AI := [⟨none, (.mov 44 (.t 9))⟩, ⟨none, (.faddr 45 2 (.t 3))⟩, ⟨none, (.load 46 1 false (.t 45))⟩, ⟨none, (.len 47 (.t 46))⟩, ⟨none, (.bin 48 .lss (.t 44) (.t 47))⟩]
theorem uf47r14 : type_of% @f47r14.eq_1 := id @f47r14.eq_1
def f47b15 : AQ := (.seq (.region f47r14) f47b13)
theorem uf47b15 (P ts os Q) : awl P f47b15 Q ts os = awl P (.seq (.region f47r14) f47b13) Q ts os := id rfl
def f47b16 : AQ := (.seq f47b15 f47b12)
theorem uf47b16 (P ts os Q) : awl P f47b16 Q ts os = awl P (.seq f47b15 f47b12) Q ts os := id rfl
def f47l17 : AQ := .loop [1, 2, 3, 9] [3] f47b16
theorem uf47l17 (P ts os Q) : awl P f47l17 Q ts os = awl P (.loop [1, 2, 3, 9] [3] f47b16) Q ts os := id rfl
def f47b18 : AQ := (.block 0 f47l17)
theorem uf47b18 (P ts os Q) : awl P f47b18 Q ts os = awl P (.block 0 f47l17) Q ts os := id rfl
def f47r19 : List AI := [⟨none, (.mov 9 (.v (.k (.c (.int .i64 0)))))⟩]
theorem uf47r19 : type_of% @f47r19.eq_1 := id @f47r19.eq_1
def f47b20 : AQ := (.seq (.region f47r19) f47b18)
theorem uf47b20 (P ts os Q) : awl P f47b20 Q ts os = awl P (.seq (.region f47r19) f47b18) Q ts os := id rfl
def f47b21 : AQ := (.seq f47b20 f47b2)
theorem uf47b21 (P ts os Q) : awl P f47b21 Q ts os = awl P (.seq f47b20 f47b2) Q ts os := id rfl
def f47r22 : List AI := [⟨none, (.faddr 34 2 (.t 3))⟩, ⟨none, (.load 35 1 false (.t 34))⟩, ⟨none, (.faddr 36 1 (.t 8))⟩, ⟨none, (.load 37 1 false (.t 36))⟩, ⟨none, (.bin 38 .sub (.v (.k (.c (.int .i64 2)))) (.t 37))⟩, ⟨none, (.iaddr 39 3 (.t 35) (.t 38))⟩, ⟨none, (.load 40 3 true (.t 39))⟩, ⟨none, (.mov 41 (.t 1))⟩, ⟨none, (.mov 42 (.t 2))⟩, ⟨none, (.call (some 43) 47 [(.t 40), (.t 41), (.t 42)])⟩, ⟨none, (.mov 6 (.t 43))⟩]
theorem uf47r22 : type_of% @f47r22.eq_1 := id @f47r22.eq_1
def f47b23 : AQ := (.seq (.region f47r22) .ret)
theorem uf47b23 (P ts os Q) : awl P f47b23 Q ts os = awl P (.seq (.region f47r22) .ret) Q ts os := id rfl
def f47b24 : AQ := (.cond (.t 33) f47b23 .skip)
theorem uf47b24 (P ts os Q) : awl P f47b24 Q ts os = awl P (.cond (.t 33) f47b23 .skip) Q ts os := id rfl
def f47r25 : List AI := [⟨none, (.faddr 32 0 (.t 8))⟩, ⟨none, (.load 33 1 false (.t 32))⟩]
theorem uf47r25 : type_of% @f47r25.eq_1 := id @f47r25.eq_1
def f47b26 : AQ := (.seq (.region f47r25) f47b24)
theorem uf47b26 (P ts os Q) : awl P f47b26 Q ts os = awl P (.seq (.region f47r25) f47b24) Q ts os := id rfl
def f47r27 : List AI := [⟨none, (.faddr 26 2 (.t 3))⟩, ⟨none, (.load 27 1 false (.t 26))⟩, ⟨none, (.iaddr 28 3 (.t 27) (.v (.k (.c (.int .i64 0)))))⟩, ⟨none, (.load 29 3 true (.t 28))⟩, ⟨none, (.mov 30 (.t 1))⟩, ⟨none, (.call (some 31) 42 [(.t 29), (.t 30)])⟩, ⟨none, (.alloc 8 30 [(.bool false), (.int .i64 0)])⟩, ⟨none, (.store 2 (.t 8) (.t 31))⟩]
theorem uf47r27 : type_of% @f47r27.eq_1 := id @f47r27.eq_1
def f47b28 : AQ := (.seq (.region f47r27) f47b26)
theorem uf47b28 (P ts os Q) : awl P f47b28 Q ts os = awl P (.seq (.region f47r27) f47b26) Q ts os := id rfl
def f47b29 : AQ := (.cond (.t 25) f47b28 .skip)
theorem uf47b29 (P ts os Q) : awl P f47b29 Q ts os = awl P (.cond (.t 25) f47b28 .skip) Q ts os := id rfl
def f47r30 : List AI := [⟨none, (.faddr 23 0 (.t 3))⟩, ⟨none, (.load 24 1 false (.t 23))⟩, ⟨none, (.bin 25 .eql (.t 24) (.v (.k (.c (.int .i64 6)))))⟩]
theorem uf47r30 : type_of% @f47r30.eq_1 := id @f47r30.eq_1
def f47b31 : AQ := (.seq (.region f47r30) f47b29)
theorem uf47b31 (P ts os Q) : awl P f47b31 Q ts os = awl P (.seq (.region f47r30) f47b29) Q ts os := id rfl
def f47b32 : AQ := (.seq f47b31 f47b21)
theorem uf47b32 (P ts os Q) : awl P f47b32 Q ts os = awl P (.seq f47b31 f47b21) Q ts os := id rfl
def f47r33 : List AI := [⟨none, (.faddr 19 1 (.t 3))⟩, ⟨none, (.load 20 1 false (.t 19))⟩, ⟨none, (.mov 21 (.t 2))⟩, ⟨none, (.bin 22 .eql (.t 20) (.t 21))⟩, ⟨none, (.mov 6 (.t 22))⟩]
theorem uf47r33 : type_of% @f47r33.eq_1 := id @f47r33.eq_1
def f47b34 : AQ := (.seq (.region f47r33) .ret)
theorem uf47b34 (P ts os Q) : awl P f47b34 Q ts os = awl P (.seq (.region f47r33) .ret) Q ts os := id rfl
def f47b35 : AQ := (.cond (.t 18) f47b34 .skip)
theorem uf47b35 (P ts os Q) : awl P f47b35 Q ts os = awl P (.cond (.t 18) f47b34 .skip) Q ts os := id rfl
def f47r36 : List AI := [⟨none, (.faddr 16 0 (.t 3))⟩, ⟨none, (.load 17 1 false (.t 16))⟩, ⟨none, (.bin 18 .eql (.t 17) (.v (.k (.c (.int .i64 2)))))⟩]
theorem uf47r36 : type_of% @f47r36.eq_1 := id @f47r36.eq_1
def f47b37 : AQ := (.seq (.region f47r36) f47b35)
theorem uf47b37 (P ts os Q) : awl P f47b37 Q ts os = awl P (.seq (.region f47r36) f47b35) Q ts os := id rfl
def f47b38 : AQ := (.seq f47b37 f47b32)
theorem uf47b38 (P ts os Q) : awl P f47b38 Q ts os = awl P (.seq f47b37 f47b32) Q ts os := id rfl
def f47r39 : List AI := [⟨none, (.mov 6 (.v (.k (.c (.bool false)))))⟩]
theorem uf47r39 : type_of% @f47r39.eq_1 := id @f47r39.eq_1
def f47b40 : AQ := (.seq (.region f47r39) .ret)
theorem uf47b40 (P ts os Q) : awl P f47b40 Q ts os = awl P (.seq (.region f47r39) .ret) Q ts os := id rfl
def f47b41 : AQ := (.cond (.t 15) f47b40 .skip)
theorem uf47b41 (P ts os Q) : awl P f47b41 Q ts os = awl P (.cond (.t 15) f47b40 .skip) Q ts os := id rfl
def f47r42 : List AI := [⟨none, (.faddr 14 0 (.t 7))⟩, ⟨none, (.load 15 1 false (.t 14))⟩]
theorem uf47r42 : type_of% @f47r42.eq_1 := id @f47r42.eq_1
def f47b43 : AQ := (.seq (.region f47r42) f47b41)
theorem uf47b43 (P ts os Q) : awl P f47b43 Q ts os = awl P (.seq (.region f47r42) f47b41) Q ts os := id rfl
def f47b44 : AQ := (.seq f47b43 f47b38)
theorem uf47b44 (P ts os Q) : awl P f47b44 Q ts os = awl P (.seq f47b43 f47b38) Q ts os := id rfl
def f47r45 : List AI := [⟨none, (.load 11 3 true (.t 3))⟩, ⟨none, (.mov 12 (.t 1))⟩, ⟨none, (.call (some 13) 42 [(.t 11), (.t 12)])⟩, ⟨none, (.alloc 7 30 [(.bool false), (.int .i64 0)])⟩, ⟨none, (.store 2 (.t 7) (.t 13))⟩]
theorem uf47r45 : type_of% @f47r45.eq_1 := id @f47r45.eq_1
def f47b46 : AQ := (.seq (.region f47r45) f47b44)
theorem uf47b46 (P ts os Q) : awl P f47b46 Q ts os = awl P (.seq (.region f47r45) f47b44) Q ts os := id rfl
def f47r47 : List AI := [⟨none, (.box 3 50 (.t 0))⟩, ⟨none, (.mov 6 (.v (.k (.c (.bool false)))))⟩]
theorem uf47r47 : type_of% @f47r47.eq_1 := id @f47r47.eq_1
def f47b48 : AQ := (.seq (.region f47r47) f47b46)
theorem uf47b48 (P ts os Q) : awl P f47b48 Q ts os = awl P (.seq (.region f47r47) f47b46) Q ts os := id rfl
def f47 : AQ := f47b48
theorem uf47 (P ts os Q) : awl P f47 Q ts os = awl P f47b48 Q ts os := id rfl
theorem hf47 : cFunc Tryd.prog 47 = some ⟨60, f47.erase, [(RX.t 6)]⟩ := by kernel_rfl
theorem okf47 : f47.ok = true := by kernel_rfl
def f48r1 : List AI := [⟨none, (.bin 24 .add (.t 17) (.v (.k (.c (.int .i64 1)))))⟩, ⟨none, (.mov 17 (.t 24))⟩]
theorem uf48r1 : type_of% @f48r1.eq_1 := id @f48r1.eq_1
def f48r2 : List AI := [⟨none, (.load 21 1 false (.t 2))⟩, ⟨none, (.load 22 3 true (.t 5))⟩, ⟨none, (.callv (some 23) (.t 21) [(.t 22)])⟩]
theorem uf48r2 : type_of% @f48r2.eq_1 := id @f48r2.eq_1
def f48r3 : List AI := [⟨none, (.iaddr 19 3 (.t 15) (.t 17))⟩, ⟨none, (.load 20 3 true (.t 19))⟩, ⟨none, (.alloc 5 50 [(.int .i64 0), (.int .i64 0), (.list 0 (some true) [])])⟩, ⟨none, (.store 3 (.t 5) (.t 20))⟩]
theorem uf48r3 : type_of% @f48r3.eq_1 := id @f48r3.eq_1
def f48b4 : AQ := (.seq (.region f48r3) (.region f48r2))
theorem uf48b4 (P ts os Q) : awl P f48b4 Q ts os = awl P (.seq (.region f48r3) (.region f48r2)) Q ts os := id rfl
def f48b5 : AQ := (.block 1 f48b4)
theorem uf48b5 (P ts os Q) : awl P f48b5 Q ts os = awl P (.block 1 f48b4) Q ts os := id rfl
def f48b6 : AQ := (.seq f48b5 (.region f48r1))
theorem uf48b6 (P ts os Q) : awl P f48b6 Q ts os = awl P (.seq f48b5 (.region f48r1)) Q ts os := id rfl
def f48b7 : AQ := (.cond (.t 18) .skip (.exit 0))
theorem uf48b7 (P ts os Q) : awl P f48b7 Q ts os = awl P (.cond (.t 18) .skip (.exit 0)) Q ts os := id rfl
def f48b8 : AQ := (.seq f48b7 f48b6)
theorem uf48b8 (P ts os Q) : awl P f48b8 Q ts os = awl P (.seq f48b7 f48b6) Q ts os := id rfl
def f48r9 : List AI := [⟨none, (.bin 18 .lss (.t 17) (.t 16))⟩]
theorem uf48r9 : type_of% @f48r9.eq_1 := id @f48r9.eq_1
def f48b10 : AQ := (.seq (.region f48r9) f48b8)
theorem uf48b10 (P ts os Q) : awl P f48b10 Q ts os = awl P (.seq (.region f48r9) f48b8) Q ts os := id rfl
def f48l11 : AQ := .loop [1, 2, 15, 16, 17] [1000, 1005, 1006] f48b10
theorem uf48l11 (P ts os Q) : awl P f48l11 Q ts os = awl P (.loop [1, 2, 15, 16, 17] [1000, 1005, 1006] f48b10) Q ts os := id rfl
def f48b12 : AQ := (.block 0 f48l11)
theorem uf48b12 (P ts os Q) : awl P f48b12 Q ts os = awl P (.block 0 f48l11) Q ts os := id rfl
def f48r13 : List AI := [⟨none, (.faddr 14 2 (.t 3))⟩, ⟨none, (.load 15 1 false (.t 14))⟩, ⟨none, (.len 16 (.t 15))⟩, ⟨none, (.mov 17 (.v (.k (.c (.int .i64 0)))))⟩]
theorem uf48r13 : type_of% @f48r13.eq_1 := id @f48r13.eq_1
def f48b14 : AQ := (.seq (.region f48r13) f48b12)
theorem uf48b14 (P ts os Q) : awl P f48b14 Q ts os = awl P (.seq (.region f48r13) f48b12) Q ts os := id rfl
def f48r15 : List AI := [⟨none, (.load 9 1 false (.t 1))⟩, ⟨none, (.faddr 10 1 (.t 3))⟩, ⟨none, (.load 11 1 false (.t 10))⟩, ⟨none, (.bslice 12 3 1 [(.int .i64 0)] 1 [(0, (.t 11))])⟩, ⟨none, (.append 13 3 1 8 (.t 9) (.t 12))⟩, ⟨none, (.store 1 (.t 1) (.t 13))⟩]
theorem uf48r15 : type_of% @f48r15.eq_1 := id @f48r15.eq_1
def f48b16 : AQ := (.cond (.t 8) (.region f48r15) .skip)
theorem uf48b16 (P ts os Q) : awl P f48b16 Q ts os = awl P (.cond (.t 8) (.region f48r15) .skip) Q ts os := id rfl
def f48r17 : List AI := [⟨none, (.faddr 6 0 (.t 3))⟩, ⟨none, (.load 7 1 false (.t 6))⟩, ⟨none, (.bin 8 .eql (.t 7) (.v (.k (.c (.int .i64 2)))))⟩]
theorem uf48r17 : type_of% @f48r17.eq_1 := id @f48r17.eq_1
def f48b18 : AQ := (.seq (.region f48r17) f48b16)
theorem uf48b18 (P ts os Q) : awl P f48b18 Q ts os = awl P (.seq (.region f48r17) f48b16) Q ts os := id rfl
def f48b19 : AQ := (.seq f48b18 f48b14)
theorem uf48b19 (P ts os Q) : awl P f48b19 Q ts os = awl P (.seq f48b18 f48b14) Q ts os := id rfl
def f48r20 : List AI := [⟨none, (.box 3 50 (.t 0))⟩]
theorem uf48r20 : type_of% @f48r20.eq_1 := id @f48r20.eq_1
def f48b21 : AQ := (.seq (.region f48r20) f48b19)
theorem uf48b21 (P ts os Q) : awl P f48b21 Q ts os = awl P (.seq (.region f48r20) f48b19) Q ts os := id rfl
def f48 : AQ := f48b21
theorem uf48 (P ts os Q) : awl P f48 Q ts os = awl P f48b21 Q ts os := id rfl
theorem hf48 : cFunc Tryd.prog 48 = some ⟨25, f48.erase, []⟩ := by kernel_rfl
theorem okf48 : f48.ok = true := by kernel_rfl
def f49r1 : List AI := [⟨none, (.mov 4 (.v (.k (.c (.bool false)))))⟩]
theorem uf49r1 : type_of% @f49r1.eq_1 := id @f49r1.eq_1
def f49b2 : AQ := (.seq (.region f49r1) .ret)
theorem uf49b2 (P ts os Q) : awl P f49b2 Q ts os = awl P (.seq (.region f49r1) .ret) Q ts os := id rfl
def f49r3 : List AI := [⟨none, (.mov 19 (.t 5))⟩, ⟨none, (.bin 20 .add (.t 19) (.v (.k (.c (.int .i64 1)))))⟩, ⟨none, (.mov 5 (.t 20))⟩]
theorem uf49r3 : type_of% @f49r3.eq_1 := id @f49r3.eq_1
def f49r4 : List AI := [⟨none, (.mov 4 (.v (.k (.c (.bool true)))))⟩]
theorem uf49r4 : type_of% @f49r4.eq_1 := id @f49r4.eq_1
def f49b5 : AQ := (.seq (.region f49r4) .ret)
theorem uf49b5 (P ts os Q) : awl P f49b5 Q ts os = awl P (.seq (.region f49r4) .ret) Q ts os := id rfl
def f49b6 : AQ := (.cond (.t 28) f49b5 .skip)
theorem uf49b6 (P ts os Q) : awl P f49b6 Q ts os = awl P (.cond (.t 28) f49b5 .skip) Q ts os := id rfl
def f49r7 : List AI := [⟨none, (.mov 28 (.t 6))⟩]
theorem uf49r7 : type_of% @f49r7.eq_1 := id @f49r7.eq_1
def f49b8 : AQ := (.seq (.region f49r7) f49b6)
theorem uf49b8 (P ts os Q) : awl P f49b8 Q ts os = awl P (.seq (.region f49r7) f49b6) Q ts os := id rfl
def f49r9 : List AI := [⟨none, (.faddr 21 2 (.t 2))⟩, ⟨none, (.load 22 1 false (.t 21))⟩, ⟨none, (.mov 23 (.t 5))⟩, ⟨none, (.iaddr 24 3 (.t 22) (.t 23))⟩, ⟨none, (.load 25 3 true (.t 24))⟩, ⟨none, (.mov 26 (.t 1))⟩, ⟨none, (.call (some 27) 49 [(.t 25), (.t 26)])⟩, ⟨none, (.mov 6 (.t 27))⟩]
theorem uf49r9 : type_of% @f49r9.eq_1 := id @f49r9.eq_1
def f49b10 : AQ := (.seq (.region f49r9) f49b8)
theorem uf49b10 (P ts os Q) : awl P f49b10 Q ts os = awl P (.seq (.region f49r9) f49b8) Q ts os := id rfl
def f49b11 : AQ := (.block 1 f49b10)
theorem uf49b11 (P ts os Q) : awl P f49b11 Q ts os = awl P (.block 1 f49b10) Q ts os := id rfl
def f49b12 : AQ := (.seq f49b11 (.region f49r3))
theorem uf49b12 (P ts os Q) : awl P f49b12 Q ts os = awl P (.seq f49b11 (.region f49r3)) Q ts os := id rfl
def f49b13 : AQ := (.cond (.t 18) .skip (.exit 0))
theorem uf49b13 (P ts os Q) : awl P f49b13 Q ts os = awl P (.cond (.t 18) .skip (.exit 0)) Q ts os := id rfl
def f49r14 : List AI := [⟨none, (.mov 14 (.t 5))⟩, ⟨none, (.faddr 15 2 (.t 2))⟩, ⟨none, (.load 16 1 false (.t 15))⟩, ⟨none, (.len 17 (.t 16))⟩, ⟨none, (.bin 18 .lss (.t 14) (.t 17))⟩]
theorem uf49r14 : type_of% @f49r14.eq_1 := id @f49r14.eq_1
def f49b15 : AQ := (.seq (.region f49r14) f49b13)
theorem uf49b15 (P ts os Q) : awl P f49b15 Q ts os = awl P (.seq (.region f49r14) f49b13) Q ts os := id rfl
def f49b16 : AQ := (.seq f49b15 f49b12)
theorem uf49b16 (P ts os Q) : awl P f49b16 Q ts os = awl P (.seq f49b15 f49b12) Q ts os := id rfl
def f49l17 : AQ := .loop [1, 2, 5] [2] f49b16
theorem uf49l17 (P ts os Q) : awl P f49l17 Q ts os = awl P (.loop [1, 2, 5] [2] f49b16) Q ts os := id rfl
def f49b18 : AQ := (.block 0 f49l17)
theorem uf49b18 (P ts os Q) : awl P f49b18 Q ts os = awl P (.block 0 f49l17) Q ts os := id rfl
def f49r19 : List AI := [⟨none, (.mov 5 (.v (.k (.c (.int .i64 0)))))⟩]
theorem uf49r19 : type_of% @f49r19.eq_1 := id @f49r19.eq_1
def f49b20 : AQ := (.seq (.region f49r19) f49b18)
theorem uf49b20 (P ts os Q) : awl P f49b20 Q ts os = awl P (.seq (.region f49r19) f49b18) Q ts os := id rfl
def f49b21 : AQ := (.seq f49b20 f49b2)
theorem uf49b21 (P ts os Q) : awl P f49b21 Q ts os = awl P (.seq f49b20 f49b2) Q ts os := id rfl
def f49r22 : List AI := [⟨none, (.faddr 10 1 (.t 2))⟩, ⟨none, (.load 11 1 false (.t 10))⟩, ⟨none, (.mov 12 (.t 1))⟩, ⟨none, (.bin 13 .eql (.t 11) (.t 12))⟩, ⟨none, (.mov 4 (.t 13))⟩]
theorem uf49r22 : type_of% @f49r22.eq_1 := id @f49r22.eq_1
def f49b23 : AQ := (.seq (.region f49r22) .ret)
theorem uf49b23 (P ts os Q) : awl P f49b23 Q ts os = awl P (.seq (.region f49r22) .ret) Q ts os := id rfl
def f49b24 : AQ := (.cond (.t 9) f49b23 .skip)
theorem uf49b24 (P ts os Q) : awl P f49b24 Q ts os = awl P (.cond (.t 9) f49b23 .skip) Q ts os := id rfl
def f49r25 : List AI := [⟨none, (.faddr 7 0 (.t 2))⟩, ⟨none, (.load 8 1 false (.t 7))⟩, ⟨none, (.bin 9 .eql (.t 8) (.v (.k (.c (.int .i64 2)))))⟩]
theorem uf49r25 : type_of% @f49r25.eq_1 := id @f49r25.eq_1
def f49b26 : AQ := (.seq (.region f49r25) f49b24)
theorem uf49b26 (P ts os Q) : awl P f49b26 Q ts os = awl P (.seq (.region f49r25) f49b24) Q ts os := id rfl
def f49b27 : AQ := (.seq f49b26 f49b21)
theorem uf49b27 (P ts os Q) : awl P f49b27 Q ts os = awl P (.seq f49b26 f49b21) Q ts os := id rfl
def f49r28 : List AI := [⟨none, (.box 2 50 (.t 0))⟩, ⟨none, (.mov 4 (.v (.k (.c (.bool false)))))⟩]
theorem uf49r28 : type_of% @f49r28.eq_1 := id @f49r28.eq_1
def f49b29 : AQ := (.seq (.region f49r28) f49b27)
theorem uf49b29 (P ts os Q) : awl P f49b29 Q ts os = awl P (.seq (.region f49r28) f49b27) Q ts os := id rfl
def f49 : AQ := f49b29
theorem uf49 (P ts os Q) : awl P f49 Q ts os = awl P f49b29 Q ts os := id rfl
theorem hf49 : cFunc Tryd.prog 49 = some ⟨29, f49.erase, [(RX.t 4)]⟩ := by kernel_rfl
theorem okf49 : f49.ok = true := by kernel_rfl
def f50r1 : List AI := [⟨none, (.mov 26 (.t 5))⟩, ⟨none, (.mov 4 (.t 26))⟩]
theorem uf50r1 : type_of% @f50r1.eq_1 := id @f50r1.eq_1
def f50b2 : AQ := (.seq (.region f50r1) .ret)
theorem uf50b2 (P ts os Q) : awl P f50b2 Q ts os = awl P (.seq (.region f50r1) .ret) Q ts os := id rfl
def f50r3 : List AI := [⟨none, (.bin 25 .add (.t 13) (.v (.k (.c (.int .i64 1)))))⟩, ⟨none, (.mov 13 (.t 25))⟩]
theorem uf50r3 : type_of% @f50r3.eq_1 := id @f50r3.eq_1
def f50b4 : AQ := (.cond (.t 24) (.exit 0) .skip)
theorem uf50b4 (P ts os Q) : awl P f50b4 Q ts os = awl P (.cond (.t 24) (.exit 0) .skip) Q ts os := id rfl
def f50r5 : List AI := [⟨none, (.mov 23 (.t 5))⟩, ⟨none, (.bin 24 .gtr (.t 23) (.v (.k (.c (.int .i64 60)))))⟩]
theorem uf50r5 : type_of% @f50r5.eq_1 := id @f50r5.eq_1
def f50b6 : AQ := (.seq (.region f50r5) f50b4)
theorem uf50b6 (P ts os Q) : awl P f50b6 Q ts os = awl P (.seq (.region f50r5) f50b4) Q ts os := id rfl
def f50r7 : List AI := [⟨none, (.mov 17 (.t 5))⟩, ⟨none, (.load 18 3 true (.t 7))⟩, ⟨none, (.mov 19 (.t 1))⟩, ⟨none, (.bin 20 .add (.t 19) (.v (.k (.c (.int .i64 1)))))⟩, ⟨none, (.call (some 21) 50 [(.t 18), (.t 20)])⟩, ⟨none, (.bin 22 .add (.t 17) (.t 21))⟩, ⟨none, (.mov 5 (.t 22))⟩]
theorem uf50r7 : type_of% @f50r7.eq_1 := id @f50r7.eq_1
def f50b8 : AQ := (.seq (.region f50r7) f50b6)
theorem uf50b8 (P ts os Q) : awl P f50b8 Q ts os = awl P (.seq (.region f50r7) f50b6) Q ts os := id rfl
def f50r9 : List AI := [⟨none, (.iaddr 15 3 (.t 11) (.t 13))⟩, ⟨none, (.load 16 3 true (.t 15))⟩, ⟨none, (.alloc 7 50 [(.int .i64 0), (.int .i64 0), (.list 0 (some true) [])])⟩, ⟨none, (.store 3 (.t 7) (.t 16))⟩]
theorem uf50r9 : type_of% @f50r9.eq_1 := id @f50r9.eq_1
def f50b10 : AQ := (.seq (.region f50r9) f50b8)
theorem uf50b10 (P ts os Q) : awl P f50b10 Q ts os = awl P (.seq (.region f50r9) f50b8) Q ts os := id rfl
def f50b11 : AQ := (.block 1 f50b10)
theorem uf50b11 (P ts os Q) : awl P f50b11 Q ts os = awl P (.block 1 f50b10) Q ts os := id rfl
def f50b12 : AQ := (.seq f50b11 (.region f50r3))
theorem uf50b12 (P ts os Q) : awl P f50b12 Q ts os = awl P (.seq f50b11 (.region f50r3)) Q ts os := id rfl
def f50b13 : AQ := (.cond (.t 14) .skip (.exit 0))
theorem uf50b13 (P ts os Q) : awl P f50b13 Q ts os = awl P (.cond (.t 14) .skip (.exit 0)) Q ts os := id rfl
def f50b14 : AQ := (.seq f50b13 f50b12)
theorem uf50b14 (P ts os Q) : awl P f50b14 Q ts os = awl P (.seq f50b13 f50b12) Q ts os := id rfl
def f50r15 : List AI := [⟨none, (.bin 14 .lss (.t 13) (.t 12))⟩]
theorem uf50r15 : type_of% @f50r15.eq_1 := id @f50r15.eq_1
def f50b16 : AQ := (.seq (.region f50r15) f50b14)
theorem uf50b16 (P ts os Q) : awl P f50b16 Q ts os = awl P (.seq (.region f50r15) f50b14) Q ts os := id rfl
def f50l17 : AQ := .loop [1, 5, 11, 12, 13] [] f50b16
theorem uf50l17 (P ts os Q) : awl P f50l17 Q ts os = awl P (.loop [1, 5, 11, 12, 13] [] f50b16) Q ts os := id rfl
def f50b18 : AQ := (.block 0 f50l17)
theorem uf50b18 (P ts os Q) : awl P f50b18 Q ts os = awl P (.block 0 f50l17) Q ts os := id rfl
def f50r19 : List AI := [⟨none, (.faddr 10 2 (.t 2))⟩, ⟨none, (.load 11 1 false (.t 10))⟩, ⟨none, (.len 12 (.t 11))⟩, ⟨none, (.mov 13 (.v (.k (.c (.int .i64 0)))))⟩]
theorem uf50r19 : type_of% @f50r19.eq_1 := id @f50r19.eq_1
def f50b20 : AQ := (.seq (.region f50r19) f50b18)
theorem uf50b20 (P ts os Q) : awl P f50b20 Q ts os = awl P (.seq (.region f50r19) f50b18) Q ts os := id rfl
def f50b21 : AQ := (.seq f50b20 f50b2)
theorem uf50b21 (P ts os Q) : awl P f50b21 Q ts os = awl P (.seq f50b20 f50b2) Q ts os := id rfl
def f50r22 : List AI := [⟨none, (.mov 5 (.v (.k (.c (.int .i64 1)))))⟩]
theorem uf50r22 : type_of% @f50r22.eq_1 := id @f50r22.eq_1
def f50b23 : AQ := (.seq (.region f50r22) f50b21)
theorem uf50b23 (P ts os Q) : awl P f50b23 Q ts os = awl P (.seq (.region f50r22) f50b21) Q ts os := id rfl
def f50r24 : List AI := [⟨none, (.mov 4 (.v (.k (.c (.int .i64 61)))))⟩]
theorem uf50r24 : type_of% @f50r24.eq_1 := id @f50r24.eq_1
def f50b25 : AQ := (.seq (.region f50r24) .ret)
theorem uf50b25 (P ts os Q) : awl P f50b25 Q ts os = awl P (.seq (.region f50r24) .ret) Q ts os := id rfl
def f50b26 : AQ := (.cond (.t 9) f50b25 .skip)
theorem uf50b26 (P ts os Q) : awl P f50b26 Q ts os = awl P (.cond (.t 9) f50b25 .skip) Q ts os := id rfl
def f50r27 : List AI := [⟨none, (.mov 8 (.t 1))⟩, ⟨none, (.bin 9 .gtr (.t 8) (.v (.k (.c (.int .i64 8)))))⟩]
theorem uf50r27 : type_of% @f50r27.eq_1 := id @f50r27.eq_1
def f50b28 : AQ := (.seq (.region f50r27) f50b26)
theorem uf50b28 (P ts os Q) : awl P f50b28 Q ts os = awl P (.seq (.region f50r27) f50b26) Q ts os := id rfl
def f50b29 : AQ := (.seq f50b28 f50b23)
theorem uf50b29 (P ts os Q) : awl P f50b29 Q ts os = awl P (.seq f50b28 f50b23) Q ts os := id rfl
def f50r30 : List AI := [⟨none, (.box 2 50 (.t 0))⟩, ⟨none, (.mov 4 (.v (.k (.c (.int .i64 0)))))⟩]
theorem uf50r30 : type_of% @f50r30.eq_1 := id @f50r30.eq_1
def f50b31 : AQ := (.seq (.region f50r30) f50b29)
theorem uf50b31 (P ts os Q) : awl P f50b31 Q ts os = awl P (.seq (.region f50r30) f50b29) Q ts os := id rfl
def f50 : AQ := f50b31
theorem uf50 (P ts os Q) : awl P f50 Q ts os = awl P f50b31 Q ts os := id rfl
theorem hf50 : cFunc Tryd.prog 50 = some ⟨27, f50.erase, [(RX.t 4)]⟩ := by kernel_rfl
theorem okf50 : f50.ok = true := by kernel_rfl
def f51r1 : List AI := [⟨none, (.faddr 111 1 (.t 9))⟩, ⟨none, (.load 112 1 false (.t 111))⟩, ⟨none, (.mov 2 (.t 112))⟩, ⟨none, (.mov 3 (.v (.k (.c (.int .i64 0)))))⟩]
theorem uf51r1 : type_of% @f51r1.eq_1 := id @f51r1.eq_1
def f51b2 : AQ := (.seq (.region f51r1) .ret)
theorem uf51b2 (P ts os Q) : awl P f51b2 Q ts os = awl P (.seq (.region f51r1) .ret) Q ts os := id rfl
def f51r3 : List AI := [⟨none, (.mov 110 (.t 10))⟩, ⟨none, (.mov 2 (.t 110))⟩, ⟨none, (.mov 3 (.v (.k (.c (.int .i64 0)))))⟩]
theorem uf51r3 : type_of% @f51r3.eq_1 := id @f51r3.eq_1
def f51b4 : AQ := (.seq (.region f51r3) .ret)
theorem uf51b4 (P ts os Q) : awl P f51b4 Q ts os = awl P (.seq (.region f51r3) .ret) Q ts os := id rfl
def f51b5 : AQ := (.cond (.t 109) f51b4 .skip)
theorem uf51b5 (P ts os Q) : awl P f51b5 Q ts os = awl P (.cond (.t 109) f51b4 .skip) Q ts os := id rfl
def f51r6 : List AI := [⟨none, (.faddr 107 1 (.t 9))⟩, ⟨none, (.load 108 1 false (.t 107))⟩, ⟨none, (.bin 109 .eql (.t 108) (.v (.k (.c (.int .i64 (-1))))))⟩]
theorem uf51r6 : type_of% @f51r6.eq_1 := id @f51r6.eq_1
def f51b7 : AQ := (.seq (.region f51r6) f51b5)
theorem uf51b7 (P ts os Q) : awl P f51b7 Q ts os = awl P (.seq (.region f51r6) f51b5) Q ts os := id rfl
def f51b8 : AQ := (.seq f51b7 f51b2)
theorem uf51b8 (P ts os Q) : awl P f51b8 Q ts os = awl P (.seq f51b7 f51b2) Q ts os := id rfl
def f51r9 : List AI := [⟨none, (.bin 106 .add (.t 82) (.v (.k (.c (.int .i64 1)))))⟩, ⟨none, (.mov 82 (.t 106))⟩]
theorem uf51r9 : type_of% @f51r9.eq_1 := id @f51r9.eq_1
def f51r10 : List AI := [⟨none, (.mov 2 (.v (.k (.c (.int .i64 0)))))⟩, ⟨none, (.mov 3 (.v (.k (.c (.int .i64 11)))))⟩]
theorem uf51r10 : type_of% @f51r10.eq_1 := id @f51r10.eq_1
def f51b11 : AQ := (.seq (.region f51r10) .ret)
theorem uf51b11 (P ts os Q) : awl P f51b11 Q ts os = awl P (.seq (.region f51r10) .ret) Q ts os := id rfl
def f51b12 : AQ := (.cond (.t 105) f51b11 .skip)
theorem uf51b12 (P ts os Q) : awl P f51b12 Q ts os = awl P (.cond (.t 105) f51b11 .skip) Q ts os := id rfl
def f51r13 : List AI := [⟨none, (.mov 100 (.t 4))⟩, ⟨none, (.mov 101 (.t 11))⟩, ⟨none, (.iaddr 102 1 (.t 100) (.t 101))⟩, ⟨none, (.load 103 1 false (.t 102))⟩, ⟨none, (.mov 104 (.t 12))⟩, ⟨none, (.bin 105 .neq (.t 103) (.t 104))⟩]
theorem uf51r13 : type_of% @f51r13.eq_1 := id @f51r13.eq_1
def f51b14 : AQ := (.seq (.region f51r13) f51b12)
theorem uf51b14 (P ts os Q) : awl P f51b14 Q ts os = awl P (.seq (.region f51r13) f51b12) Q ts os := id rfl
def f51r15 : List AI := [⟨none, (.mov 99 (.t 10))⟩, ⟨none, (.mov 12 (.t 99))⟩]
theorem uf51r15 : type_of% @f51r15.eq_1 := id @f51r15.eq_1
def f51b16 : AQ := (.cond (.t 98) (.region f51r15) .skip)
theorem uf51b16 (P ts os Q) : awl P f51b16 Q ts os = awl P (.cond (.t 98) (.region f51r15) .skip) Q ts os := id rfl
def f51r17 : List AI := [⟨none, (.mov 97 (.t 12))⟩, ⟨none, (.bin 98 .eql (.t 97) (.v (.k (.c (.int .i64 (-1))))))⟩]
theorem uf51r17 : type_of% @f51r17.eq_1 := id @f51r17.eq_1
def f51b18 : AQ := (.seq (.region f51r17) f51b16)
theorem uf51b18 (P ts os Q) : awl P f51b18 Q ts os = awl P (.seq (.region f51r17) f51b16) Q ts os := id rfl
def f51b19 : AQ := (.seq f51b18 f51b14)
theorem uf51b19 (P ts os Q) : awl P f51b19 Q ts os = awl P (.seq f51b18 f51b14) Q ts os := id rfl
def f51r20 : List AI := [⟨none, (.mov 93 (.t 4))⟩, ⟨none, (.mov 94 (.t 11))⟩, ⟨none, (.iaddr 95 1 (.t 93) (.t 94))⟩, ⟨none, (.load 96 1 false (.t 95))⟩, ⟨none, (.mov 10 (.t 96))⟩]
theorem uf51r20 : type_of% @f51r20.eq_1 := id @f51r20.eq_1
def f51b21 : AQ := (.cond (.t 92) (.region f51r20) .skip)
theorem uf51b21 (P ts os Q) : awl P f51b21 Q ts os = awl P (.cond (.t 92) (.region f51r20) .skip) Q ts os := id rfl
def f51r22 : List AI := [⟨none, (.mov 87 (.t 12))⟩, ⟨none, (.bin 88 .eql (.t 87) (.v (.k (.c (.int .i64 (-1))))))⟩, ⟨none, (.mov 89 (.t 88))⟩, ⟨(some (89, true)), (.mov 90 (.t 10))⟩, ⟨(some (89, true)), (.bin 91 .eql (.t 90) (.v (.k (.c (.int .i64 (-1))))))⟩, ⟨none, (.pick 92 (.t 89) (.t 91) (.v (.k (.c (.bool false)))))⟩]
theorem uf51r22 : type_of% @f51r22.eq_1 := id @f51r22.eq_1
def f51b23 : AQ := (.seq (.region f51r22) f51b21)
theorem uf51b23 (P ts os Q) : awl P f51b23 Q ts os = awl P (.seq (.region f51r22) f51b21) Q ts os := id rfl
def f51b24 : AQ := (.seq f51b23 f51b19)
theorem uf51b24 (P ts os Q) : awl P f51b24 Q ts os = awl P (.seq f51b23 f51b19) Q ts os := id rfl
def f51r25 : List AI := [⟨none, (.mov 84 (.t 82))⟩, ⟨none, (.iaddr 85 1 (.t 80) (.t 82))⟩, ⟨none, (.load 86 1 false (.t 85))⟩, ⟨none, (.mov 11 (.t 84))⟩, ⟨none, (.mov 12 (.t 86))⟩]
theorem uf51r25 : type_of% @f51r25.eq_1 := id @f51r25.eq_1
def f51b26 : AQ := (.seq (.region f51r25) f51b24)
theorem uf51b26 (P ts os Q) : awl P f51b26 Q ts os = awl P (.seq (.region f51r25) f51b24) Q ts os := id rfl
def f51b27 : AQ := (.block 4 f51b26)
theorem uf51b27 (P ts os Q) : awl P f51b27 Q ts os = awl P (.block 4 f51b26) Q ts os := id rfl
def f51b28 : AQ := (.seq f51b27 (.region f51r9))
theorem uf51b28 (P ts os Q) : awl P f51b28 Q ts os = awl P (.seq f51b27 (.region f51r9)) Q ts os := id rfl
def f51b29 : AQ := (.cond (.t 83) .skip (.exit 3))
theorem uf51b29 (P ts os Q) : awl P f51b29 Q ts os = awl P (.cond (.t 83) .skip (.exit 3)) Q ts os := id rfl
def f51b30 : AQ := (.seq f51b29 f51b28)
theorem uf51b30 (P ts os Q) : awl P f51b30 Q ts os = awl P (.seq f51b29 f51b28) Q ts os := id rfl
def f51r31 : List AI := [⟨none, (.bin 83 .lss (.t 82) (.t 81))⟩]
theorem uf51r31 : type_of% @f51r31.eq_1 := id @f51r31.eq_1
def f51b32 : AQ := (.seq (.region f51r31) f51b30)
theorem uf51b32 (P ts os Q) : awl P f51b32 Q ts os = awl P (.seq (.region f51r31) f51b30) Q ts os := id rfl
def f51l33 : AQ := .loop [4, 9, 10, 80, 81, 82] [9, 16, 67, 68000, 68001, 68002] f51b32
theorem uf51l33 (P ts os Q) : awl P f51l33 Q ts os = awl P (.loop [4, 9, 10, 80, 81, 82] [9, 16, 67, 68000, 68001, 68002] f51b32) Q ts os := id rfl
def f51b34 : AQ := (.block 3 f51l33)
theorem uf51b34 (P ts os Q) : awl P f51b34 Q ts os = awl P (.block 3 f51l33) Q ts os := id rfl
def f51r35 : List AI := [⟨none, (.faddr 79 0 (.t 9))⟩, ⟨none, (.load 80 1 false (.t 79))⟩, ⟨none, (.len 81 (.t 80))⟩, ⟨none, (.mov 82 (.v (.k (.c (.int .i64 0)))))⟩]
theorem uf51r35 : type_of% @f51r35.eq_1 := id @f51r35.eq_1
def f51b36 : AQ := (.seq (.region f51r35) f51b34)
theorem uf51b36 (P ts os Q) : awl P f51b36 Q ts os = awl P (.seq (.region f51r35) f51b34) Q ts os := id rfl
def f51b37 : AQ := (.seq f51b36 f51b8)
theorem uf51b37 (P ts os Q) : awl P f51b37 Q ts os = awl P (.seq f51b36 f51b8) Q ts os := id rfl
def f51r38 : List AI := [⟨none, (.mov 10 (.v (.k (.c (.int .i64 (-1))))))⟩]
theorem uf51r38 : type_of% @f51r38.eq_1 := id @f51r38.eq_1
def f51b39 : AQ := (.seq (.region f51r38) f51b37)
theorem uf51b39 (P ts os Q) : awl P f51b39 Q ts os = awl P (.seq (.region f51r38) f51b37) Q ts os := id rfl
def f51r40 : List AI := [⟨none, (.mov 2 (.v (.k (.c (.int .i64 0)))))⟩, ⟨none, (.mov 3 (.v (.k (.c (.int .i64 2)))))⟩]
theorem uf51r40 : type_of% @f51r40.eq_1 := id @f51r40.eq_1
def f51b41 : AQ := (.seq (.region f51r40) .ret)
theorem uf51b41 (P ts os Q) : awl P f51b41 Q ts os = awl P (.seq (.region f51r40) .ret) Q ts os := id rfl
def f51b42 : AQ := (.cond (.t 78) f51b41 .skip)
theorem uf51b42 (P ts os Q) : awl P f51b42 Q ts os = awl P (.cond (.t 78) f51b41 .skip) Q ts os := id rfl
def f51r43 : List AI := [⟨none, (.mov 68 (.t 4))⟩, ⟨none, (.len 69 (.t 68))⟩, ⟨none, (.faddr 70 0 (.t 9))⟩, ⟨none, (.load 71 1 false (.t 70))⟩, ⟨none, (.len 72 (.t 71))⟩, ⟨none, (.bin 73 .neq (.t 69) (.t 72))⟩, ⟨none, (.mov 74 (.t 73))⟩, ⟨(some (74, false)), (.faddr 75 1 (.t 1))⟩, ⟨(some (74, false)), (.load 76 1 false (.t 75))⟩, ⟨(some (74, false)), (.bin 77 .neq (.t 76) (.v (.k (.c (.int .i64 0)))))⟩, ⟨none, (.pick 78 (.t 74) (.v (.k (.c (.bool true)))) (.t 77))⟩]
theorem uf51r43 : type_of% @f51r43.eq_1 := id @f51r43.eq_1
def f51b44 : AQ := (.seq (.region f51r43) f51b42)
theorem uf51b44 (P ts os Q) : awl P f51b44 Q ts os = awl P (.seq (.region f51r43) f51b42) Q ts os := id rfl
def f51b45 : AQ := (.seq f51b44 f51b39)
theorem uf51b45 (P ts os Q) : awl P f51b45 Q ts os = awl P (.seq f51b44 f51b39) Q ts os := id rfl
def f51r46 : List AI := [⟨none, (.faddr 65 0 (.t 1))⟩, ⟨none, (.load 66 1 false (.t 65))⟩, ⟨none, (.call (some 67) 62 [(.t 66)])⟩, ⟨none, (.alloc 9 93 [(.list 0 (some true) []), (.int .i64 0)])⟩, ⟨none, (.store 2 (.t 9) (.t 67))⟩]
theorem uf51r46 : type_of% @f51r46.eq_1 := id @f51r46.eq_1
def f51b47 : AQ := (.seq (.region f51r46) f51b45)
theorem uf51b47 (P ts os Q) : awl P f51b47 Q ts os = awl P (.seq (.region f51r46) f51b45) Q ts os := id rfl
def f51r48 : List AI := [⟨none, (.mov 2 (.v (.k (.c (.int .i64 0)))))⟩, ⟨none, (.mov 3 (.v (.k (.c (.int .i64 1)))))⟩]
theorem uf51r48 : type_of% @f51r48.eq_1 := id @f51r48.eq_1
def f51b49 : AQ := (.seq (.region f51r48) .ret)
theorem uf51b49 (P ts os Q) : awl P f51b49 Q ts os = awl P (.seq (.region f51r48) .ret) Q ts os := id rfl
def f51r50 : List AI := [⟨none, (.load 61 3 true (.t 1))⟩, ⟨none, (.call (some 62) 61 [(.t 61)])⟩, ⟨none, (.extr 63 (.t 62) 0)⟩, ⟨none, (.extr 64 (.t 62) 1)⟩, ⟨none, (.mov 2 (.t 63))⟩, ⟨none, (.mov 3 (.t 64))⟩]
theorem uf51r50 : type_of% @f51r50.eq_1 := id @f51r50.eq_1
def f51b51 : AQ := (.seq (.region f51r50) .ret)
theorem uf51b51 (P ts os Q) : awl P f51b51 Q ts os = awl P (.seq (.region f51r50) .ret) Q ts os := id rfl
def f51b52 : AQ := (.cond (.t 47) f51b51 .skip)
theorem uf51b52 (P ts os Q) : awl P f51b52 Q ts os = awl P (.cond (.t 47) f51b51 .skip) Q ts os := id rfl
def f51r53 : List AI := [⟨none, (.faddr 48 0 (.t 1))⟩, ⟨none, (.load 49 1 false (.t 48))⟩, ⟨none, (.bin 50 .eql (.t 49) (.v (.k (.c (.int .i64 0)))))⟩, ⟨none, (.mov 51 (.t 50))⟩, ⟨(some (51, false)), (.faddr 52 0 (.t 1))⟩, ⟨(some (51, false)), (.load 53 1 false (.t 52))⟩, ⟨(some (51, false)), (.bin 54 .eql (.t 53) (.v (.k (.c (.int .i64 1)))))⟩, ⟨none, (.pick 55 (.t 51) (.v (.k (.c (.bool true)))) (.t 54))⟩, ⟨none, (.mov 56 (.t 55))⟩, ⟨(some (56, false)), (.faddr 57 0 (.t 1))⟩, ⟨(some (56, false)), (.load 58 1 false (.t 57))⟩, ⟨(some (56, false)), (.bin 59 .eql (.t 58) (.v (.k (.c (.int .i64 2)))))⟩, ⟨none, (.pick 60 (.t 56) (.v (.k (.c (.bool true)))) (.t 59))⟩, ⟨none, (.mov 47 (.t 60))⟩]
theorem uf51r53 : type_of% @f51r53.eq_1 := id @f51r53.eq_1
def f51b54 : AQ := (.seq (.region f51r53) f51b52)
theorem uf51b54 (P ts os Q) : awl P f51b54 Q ts os = awl P (.seq (.region f51r53) f51b52) Q ts os := id rfl
def f51b55 : AQ := (.cond (.t 38) f51b49 f51b54)
theorem uf51b55 (P ts os Q) : awl P f51b55 Q ts os = awl P (.cond (.t 38) f51b49 f51b54) Q ts os := id rfl
def f51r56 : List AI := [⟨none, (.faddr 39 0 (.t 1))⟩, ⟨none, (.load 40 1 false (.t 39))⟩, ⟨none, (.bin 41 .lss (.t 40) (.v (.k (.c (.int .i64 0)))))⟩, ⟨none, (.mov 42 (.t 41))⟩, ⟨(some (42, false)), (.faddr 43 0 (.t 1))⟩, ⟨(some (42, false)), (.load 44 1 false (.t 43))⟩, ⟨(some (42, false)), (.bin 45 .gtr (.t 44) (.v (.k (.c (.int .i64 13)))))⟩, ⟨none, (.pick 46 (.t 42) (.v (.k (.c (.bool true)))) (.t 45))⟩, ⟨none, (.mov 38 (.t 46))⟩]
theorem uf51r56 : type_of% @f51r56.eq_1 := id @f51r56.eq_1
def f51b57 : AQ := (.seq (.region f51r56) f51b55)
theorem uf51b57 (P ts os Q) : awl P f51b57 Q ts os = awl P (.seq (.region f51r56) f51b55) Q ts os := id rfl
def f51b58 : AQ := (.block 2 f51b57)
theorem uf51b58 (P ts os Q) : awl P f51b58 Q ts os = awl P (.block 2 f51b57) Q ts os := id rfl
def f51b59 : AQ := (.seq f51b58 f51b47)
theorem uf51b59 (P ts os Q) : awl P f51b59 Q ts os = awl P (.seq f51b58 f51b47) Q ts os := id rfl
def f51r60 : List AI := [⟨none, (.bin 37 .add (.t 20) (.v (.k (.c (.int .i64 1)))))⟩, ⟨none, (.mov 20 (.t 37))⟩]
theorem uf51r60 : type_of% @f51r60.eq_1 := id @f51r60.eq_1
def f51r61 : List AI := [⟨none, (.mov 33 (.t 4))⟩, ⟨none, (.mov 34 (.t 5))⟩, ⟨none, (.mov 35 (.t 7))⟩, ⟨none, (.iaddr 36 1 (.t 33) (.t 34))⟩, ⟨none, (.store 1 (.t 36) (.t 35))⟩]
theorem uf51r61 : type_of% @f51r61.eq_1 := id @f51r61.eq_1
def f51r62 : List AI := [⟨none, (.mov 32 (.t 8))⟩, ⟨none, (.mov 2 (.v (.k (.c (.int .i64 0)))))⟩, ⟨none, (.mov 3 (.t 32))⟩]
theorem uf51r62 : type_of% @f51r62.eq_1 := id @f51r62.eq_1
def f51b63 : AQ := (.seq (.region f51r62) .ret)
theorem uf51b63 (P ts os Q) : awl P f51b63 Q ts os = awl P (.seq (.region f51r62) .ret) Q ts os := id rfl
def f51b64 : AQ := (.cond (.t 31) f51b63 .skip)
theorem uf51b64 (P ts os Q) : awl P f51b64 Q ts os = awl P (.cond (.t 31) f51b63 .skip) Q ts os := id rfl
def f51r65 : List AI := [⟨none, (.mov 30 (.t 8))⟩, ⟨none, (.bin 31 .neq (.t 30) (.v (.k (.c (.int .i64 0)))))⟩]
theorem uf51r65 : type_of% @f51r65.eq_1 := id @f51r65.eq_1
def f51b66 : AQ := (.seq (.region f51r65) f51b64)
theorem uf51b66 (P ts os Q) : awl P f51b66 Q ts os = awl P (.seq (.region f51r65) f51b64) Q ts os := id rfl
def f51b67 : AQ := (.seq f51b66 (.region f51r61))
theorem uf51b67 (P ts os Q) : awl P f51b67 Q ts os = awl P (.seq f51b66 (.region f51r61)) Q ts os := id rfl
def f51r68 : List AI := [⟨none, (.load 26 3 true (.t 6))⟩, ⟨none, (.call (some 27) 51 [(.t 26)])⟩, ⟨none, (.mov 25 (.t 27))⟩, ⟨none, (.extr 28 (.t 25) 0)⟩, ⟨none, (.extr 29 (.t 25) 1)⟩, ⟨none, (.mov 7 (.t 28))⟩, ⟨none, (.mov 8 (.t 29))⟩]
theorem uf51r68 : type_of% @f51r68.eq_1 := id @f51r68.eq_1
def f51b69 : AQ := (.seq (.region f51r68) f51b67)
theorem uf51b69 (P ts os Q) : awl P f51b69 Q ts os = awl P (.seq (.region f51r68) f51b67) Q ts os := id rfl
def f51r70 : List AI := [⟨none, (.mov 22 (.t 20))⟩, ⟨none, (.iaddr 23 3 (.t 18) (.t 20))⟩, ⟨none, (.load 24 3 true (.t 23))⟩, ⟨none, (.alloc 6 50 [(.int .i64 0), (.int .i64 0), (.list 0 (some true) [])])⟩, ⟨none, (.mov 5 (.t 22))⟩, ⟨none, (.store 3 (.t 6) (.t 24))⟩]
theorem uf51r70 : type_of% @f51r70.eq_1 := id @f51r70.eq_1
def f51b71 : AQ := (.seq (.region f51r70) f51b69)
theorem uf51b71 (P ts os Q) : awl P f51b71 Q ts os = awl P (.seq (.region f51r70) f51b69) Q ts os := id rfl
def f51b72 : AQ := (.block 1 f51b71)
theorem uf51b72 (P ts os Q) : awl P f51b72 Q ts os = awl P (.block 1 f51b71) Q ts os := id rfl
def f51b73 : AQ := (.seq f51b72 (.region f51r60))
theorem uf51b73 (P ts os Q) : awl P f51b73 Q ts os = awl P (.seq f51b72 (.region f51r60)) Q ts os := id rfl
def f51b74 : AQ := (.cond (.t 21) .skip (.exit 0))
theorem uf51b74 (P ts os Q) : awl P f51b74 Q ts os = awl P (.cond (.t 21) .skip (.exit 0)) Q ts os := id rfl
def f51b75 : AQ := (.seq f51b74 f51b73)
theorem uf51b75 (P ts os Q) : awl P f51b75 Q ts os = awl P (.seq f51b74 f51b73) Q ts os := id rfl
def f51r76 : List AI := [⟨none, (.bin 21 .lss (.t 20) (.t 19))⟩]
theorem uf51r76 : type_of% @f51r76.eq_1 := id @f51r76.eq_1
def f51b77 : AQ := (.seq (.region f51r76) f51b75)
theorem uf51b77 (P ts os Q) : awl P f51b77 Q ts os = awl P (.seq (.region f51r76) f51b75) Q ts os := id rfl
def f51l78 : AQ := .loop [1, 4, 18, 19, 20] [1, 16] f51b77
theorem uf51l78 (P ts os Q) : awl P f51l78 Q ts os = awl P (.loop [1, 4, 18, 19, 20] [1, 16] f51b77) Q ts os := id rfl
def f51b79 : AQ := (.block 0 f51l78)
theorem uf51b79 (P ts os Q) : awl P f51b79 Q ts os = awl P (.block 0 f51l78) Q ts os := id rfl
def f51r80 : List AI := [⟨none, (.faddr 17 2 (.t 1))⟩, ⟨none, (.load 18 1 false (.t 17))⟩, ⟨none, (.len 19 (.t 18))⟩, ⟨none, (.mov 20 (.v (.k (.c (.int .i64 0)))))⟩]
theorem uf51r80 : type_of% @f51r80.eq_1 := id @f51r80.eq_1
def f51b81 : AQ := (.seq (.region f51r80) f51b79)
theorem uf51b81 (P ts os Q) : awl P f51b81 Q ts os = awl P (.seq (.region f51r80) f51b79) Q ts os := id rfl
def f51b82 : AQ := (.seq f51b81 f51b59)
theorem uf51b82 (P ts os Q) : awl P f51b82 Q ts os = awl P (.seq f51b81 f51b59) Q ts os := id rfl
def f51r83 : List AI := [⟨none, (.faddr 13 2 (.t 1))⟩, ⟨none, (.load 14 1 false (.t 13))⟩, ⟨none, (.len 15 (.t 14))⟩, ⟨none, (.mkslice 16 3 1 8 [(.int .i64 0)] (.t 15) (.t 15))⟩, ⟨none, (.mov 4 (.t 16))⟩]
theorem uf51r83 : type_of% @f51r83.eq_1 := id @f51r83.eq_1
def f51b84 : AQ := (.seq (.region f51r83) f51b82)
theorem uf51b84 (P ts os Q) : awl P f51b84 Q ts os = awl P (.seq (.region f51r83) f51b82) Q ts os := id rfl
def f51r85 : List AI := [⟨none, (.box 1 50 (.t 0))⟩, ⟨none, (.mov 2 (.v (.k (.c (.int .i64 0)))))⟩, ⟨none, (.mov 3 (.v (.k (.c (.int .i64 0)))))⟩]
theorem uf51r85 : type_of% @f51r85.eq_1 := id @f51r85.eq_1
def f51b86 : AQ := (.seq (.region f51r85) f51b84)
theorem uf51b86 (P ts os Q) : awl P f51b86 Q ts os = awl P (.seq (.region f51r85) f51b84) Q ts os := id rfl
def f51 : AQ := f51b86
theorem uf51 (P ts os Q) : awl P f51 Q ts os = awl P f51b86 Q ts os := id rfl
theorem hf51 : cFunc Tryd.prog 51 = some ⟨113, f51.erase, [(RX.t 2), (RX.t 3)]⟩ := by kernel_rfl
theorem okf51 : f51.ok = true := by kernel_rfl
def f52r1 : List AI := [⟨none, (.faddr 37 0 (.t 2))⟩, ⟨none, (.load 38 1 false (.t 37))⟩, ⟨none, (.mov 39 (.t 1))⟩, ⟨none, (.iaddr 40 2 (.t 38) (.t 39))⟩, ⟨none, (.faddr 41 1 (.t 40))⟩, ⟨none, (.load 42 1 false (.t 41))⟩, ⟨none, (.call (some 43) 65 [(.t 42)])⟩, ⟨none, (.build 44 [(.bool false), (.int .i64 0)] [(0, (1, (.v (.k (.c (.bool true)))))), (1, (1, (.t 43)))])⟩, ⟨none, (.store 2 (.t 4) (.t 44))⟩]
theorem uf52r1 : type_of% @f52r1.eq_1 := id @f52r1.eq_1
def f52b2 : AQ := (.seq (.region f52r1) .ret)
theorem uf52b2 (P ts os Q) : awl P f52b2 Q ts os = awl P (.seq (.region f52r1) .ret) Q ts os := id rfl
def f52r3 : List AI := [⟨none, (.faddr 29 0 (.t 2))⟩, ⟨none, (.load 30 1 false (.t 29))⟩, ⟨none, (.mov 31 (.t 1))⟩, ⟨none, (.iaddr 32 2 (.t 30) (.t 31))⟩, ⟨none, (.faddr 33 1 (.t 32))⟩, ⟨none, (.load 34 1 false (.t 33))⟩, ⟨none, (.bin 35 .neq (.t 34) (.v (.k (.c (.int .i64 0)))))⟩, ⟨none, (.call (some 36) 64 [(.t 35)])⟩, ⟨none, (.store 2 (.t 4) (.t 36))⟩]
theorem uf52r3 : type_of% @f52r3.eq_1 := id @f52r3.eq_1
def f52b4 : AQ := (.seq (.region f52r3) .ret)
theorem uf52b4 (P ts os Q) : awl P f52b4 Q ts os = awl P (.seq (.region f52r3) .ret) Q ts os := id rfl
def f52b5 : AQ := (.cond (.t 28) f52b4 .skip)
theorem uf52b5 (P ts os Q) : awl P f52b5 Q ts os = awl P (.cond (.t 28) f52b4 .skip) Q ts os := id rfl
def f52r6 : List AI := [⟨none, (.mov 27 (.t 5))⟩, ⟨none, (.bin 28 .eql (.t 27) (.v (.k (.c (.int .i64 1)))))⟩]
theorem uf52r6 : type_of% @f52r6.eq_1 := id @f52r6.eq_1
def f52b7 : AQ := (.seq (.region f52r6) f52b5)
theorem uf52b7 (P ts os Q) : awl P f52b7 Q ts os = awl P (.seq (.region f52r6) f52b5) Q ts os := id rfl
def f52r8 : List AI := [⟨none, (.mov 23 (.t 1))⟩, ⟨none, (.call (some 24) 63 [(.t 23)])⟩, ⟨none, (.mov 22 (.t 24))⟩, ⟨none, (.extr 25 (.t 22) 0)⟩, ⟨none, (.extr 26 (.t 22) 1)⟩, ⟨none, (.mov 5 (.t 25))⟩, ⟨none, (.mov 6 (.t 26))⟩]
theorem uf52r8 : type_of% @f52r8.eq_1 := id @f52r8.eq_1
def f52b9 : AQ := (.seq (.region f52r8) f52b7)
theorem uf52b9 (P ts os Q) : awl P f52b9 Q ts os = awl P (.seq (.region f52r8) f52b7) Q ts os := id rfl
def f52b10 : AQ := (.seq f52b9 f52b2)
theorem uf52b10 (P ts os Q) : awl P f52b10 Q ts os = awl P (.seq f52b9 f52b2) Q ts os := id rfl
def f52r11 : List AI := [⟨none, (.build 21 [(.bool false), (.int .i64 0)] [])⟩, ⟨none, (.store 2 (.t 4) (.t 21))⟩]
theorem uf52r11 : type_of% @f52r11.eq_1 := id @f52r11.eq_1
def f52b12 : AQ := (.seq (.region f52r11) .ret)
theorem uf52b12 (P ts os Q) : awl P f52b12 Q ts os = awl P (.seq (.region f52r11) .ret) Q ts os := id rfl
def f52b13 : AQ := (.cond (.t 20) f52b12 .skip)
theorem uf52b13 (P ts os Q) : awl P f52b13 Q ts os = awl P (.cond (.t 20) f52b12 .skip) Q ts os := id rfl
def f52r14 : List AI := [⟨none, (.mov 7 (.t 1))⟩, ⟨none, (.faddr 8 0 (.t 2))⟩, ⟨none, (.load 9 1 false (.t 8))⟩, ⟨none, (.len 10 (.t 9))⟩, ⟨none, (.bin 11 .geq (.t 7) (.t 10))⟩, ⟨none, (.mov 12 (.t 11))⟩, ⟨(some (12, false)), (.faddr 13 0 (.t 2))⟩, ⟨(some (12, false)), (.load 14 1 false (.t 13))⟩, ⟨(some (12, false)), (.mov 15 (.t 1))⟩, ⟨(some (12, false)), (.iaddr 16 2 (.t 14) (.t 15))⟩, ⟨(some (12, false)), (.faddr 17 0 (.t 16))⟩, ⟨(some (12, false)), (.load 18 1 false (.t 17))⟩, ⟨(some (12, false)), (.un 19 .not (.t 18))⟩, ⟨none, (.pick 20 (.t 12) (.v (.k (.c (.bool true)))) (.t 19))⟩]
theorem uf52r14 : type_of% @f52r14.eq_1 := id @f52r14.eq_1
def f52b15 : AQ := (.seq (.region f52r14) f52b13)
theorem uf52b15 (P ts os Q) : awl P f52b15 Q ts os = awl P (.seq (.region f52r14) f52b13) Q ts os := id rfl
def f52b16 : AQ := (.seq f52b15 f52b10)
theorem uf52b16 (P ts os Q) : awl P f52b16 Q ts os = awl P (.seq f52b15 f52b10) Q ts os := id rfl
def f52r17 : List AI := [⟨none, (.box 2 73 (.t 0))⟩, ⟨none, (.alloc 4 30 [(.bool false), (.int .i64 0)])⟩]
theorem uf52r17 : type_of% @f52r17.eq_1 := id @f52r17.eq_1
def f52b18 : AQ := (.seq (.region f52r17) f52b16)
theorem uf52b18 (P ts os Q) : awl P f52b18 Q ts os = awl P (.seq (.region f52r17) f52b16) Q ts os := id rfl
def f52 : AQ := f52b18
theorem uf52 (P ts os Q) : awl P f52 Q ts os = awl P f52b18 Q ts os := id rfl
theorem hf52 : cFunc Tryd.prog 52 = some ⟨45, f52.erase, [(RX.cell 4 2 true)]⟩ := by kernel_rfl
theorem okf52 : f52.ok = true := by kernel_rfl
def f53r1 : List AI := [⟨none, (.mov 100 (.t 0))⟩, ⟨none, (.mov 101 (.t 6))⟩, ⟨none, (.mov 102 (.t 7))⟩, ⟨none, (.call (some 103) 66 [(.t 100), (.t 101), (.t 102)])⟩, ⟨none, (.build 104 [(.bool false), (.int .i64 0)] [(0, (1, (.v (.k (.c (.bool true)))))), (1, (1, (.t 103)))])⟩, ⟨none, (.store 2 (.t 4) (.t 104))⟩]
theorem uf53r1 : type_of% @f53r1.eq_1 := id @f53r1.eq_1
def f53b2 : AQ := (.seq (.region f53r1) .ret)
theorem uf53b2 (P ts os Q) : awl P f53b2 Q ts os = awl P (.seq (.region f53r1) .ret) Q ts os := id rfl
def f53r3 : List AI := [⟨none, (.mov 85 (.t 0))⟩, ⟨none, (.bin 86 .eql (.t 85) (.v (.k (.c (.int .i64 4)))))⟩, ⟨none, (.call (some 87) 64 [(.t 86)])⟩, ⟨none, (.store 2 (.t 4) (.t 87))⟩]
theorem uf53r3 : type_of% @f53r3.eq_1 := id @f53r3.eq_1
def f53b4 : AQ := (.seq (.region f53r3) .ret)
theorem uf53b4 (P ts os Q) : awl P f53b4 Q ts os = awl P (.seq (.region f53r3) .ret) Q ts os := id rfl
def f53r5 : List AI := [⟨none, (.mov 90 (.t 6))⟩, ⟨none, (.mov 91 (.t 7))⟩, ⟨none, (.bin 92 .lss (.t 90) (.t 91))⟩, ⟨none, (.call (some 93) 64 [(.t 92)])⟩, ⟨none, (.store 2 (.t 4) (.t 93))⟩]
theorem uf53r5 : type_of% @f53r5.eq_1 := id @f53r5.eq_1
def f53b6 : AQ := (.seq (.region f53r5) .ret)
theorem uf53b6 (P ts os Q) : awl P f53b6 Q ts os = awl P (.seq (.region f53r5) .ret) Q ts os := id rfl
def f53r7 : List AI := [⟨none, (.mov 96 (.t 6))⟩, ⟨none, (.mov 97 (.t 7))⟩, ⟨none, (.bin 98 .eql (.t 96) (.t 97))⟩, ⟨none, (.call (some 99) 64 [(.t 98)])⟩, ⟨none, (.store 2 (.t 4) (.t 99))⟩]
theorem uf53r7 : type_of% @f53r7.eq_1 := id @f53r7.eq_1
def f53b8 : AQ := (.seq (.region f53r7) .ret)
theorem uf53b8 (P ts os Q) : awl P f53b8 Q ts os = awl P (.seq (.region f53r7) .ret) Q ts os := id rfl
def f53b9 : AQ := (.cond (.t 94) f53b8 .skip)
theorem uf53b9 (P ts os Q) : awl P f53b9 Q ts os = awl P (.cond (.t 94) f53b8 .skip) Q ts os := id rfl
def f53r10 : List AI := [⟨none, (.bin 95 .eql (.t 81) (.v (.k (.c (.int .i64 8)))))⟩, ⟨none, (.mov 94 (.t 95))⟩]
theorem uf53r10 : type_of% @f53r10.eq_1 := id @f53r10.eq_1
def f53b11 : AQ := (.seq (.region f53r10) f53b9)
theorem uf53b11 (P ts os Q) : awl P f53b11 Q ts os = awl P (.seq (.region f53r10) f53b9) Q ts os := id rfl
def f53b12 : AQ := (.cond (.t 88) f53b6 f53b11)
theorem uf53b12 (P ts os Q) : awl P f53b12 Q ts os = awl P (.cond (.t 88) f53b6 f53b11) Q ts os := id rfl
def f53r13 : List AI := [⟨none, (.bin 89 .eql (.t 81) (.v (.k (.c (.int .i64 7)))))⟩, ⟨none, (.mov 88 (.t 89))⟩]
theorem uf53r13 : type_of% @f53r13.eq_1 := id @f53r13.eq_1
def f53b14 : AQ := (.seq (.region f53r13) f53b12)
theorem uf53b14 (P ts os Q) : awl P f53b14 Q ts os = awl P (.seq (.region f53r13) f53b12) Q ts os := id rfl
def f53b15 : AQ := (.cond (.t 82) f53b4 f53b14)
theorem uf53b15 (P ts os Q) : awl P f53b15 Q ts os = awl P (.cond (.t 82) f53b4 f53b14) Q ts os := id rfl
def f53r16 : List AI := [⟨none, (.bin 84 .eql (.t 81) (.v (.k (.c (.int .i64 5)))))⟩, ⟨none, (.mov 82 (.t 84))⟩]
theorem uf53r16 : type_of% @f53r16.eq_1 := id @f53r16.eq_1
def f53b17 : AQ := (.cond (.t 82) .skip (.region f53r16))
theorem uf53b17 (P ts os Q) : awl P f53b17 Q ts os = awl P (.cond (.t 82) .skip (.region f53r16)) Q ts os := id rfl
def f53r18 : List AI := [⟨none, (.bin 83 .eql (.t 81) (.v (.k (.c (.int .i64 4)))))⟩, ⟨none, (.mov 82 (.t 83))⟩]
theorem uf53r18 : type_of% @f53r18.eq_1 := id @f53r18.eq_1
def f53b19 : AQ := (.seq (.region f53r18) f53b17)
theorem uf53b19 (P ts os Q) : awl P f53b19 Q ts os = awl P (.seq (.region f53r18) f53b17) Q ts os := id rfl
def f53b20 : AQ := (.seq f53b19 f53b15)
theorem uf53b20 (P ts os Q) : awl P f53b20 Q ts os = awl P (.seq f53b19 f53b15) Q ts os := id rfl
def f53b21 : AQ := (.block 1 f53b20)
theorem uf53b21 (P ts os Q) : awl P f53b21 Q ts os = awl P (.block 1 f53b20) Q ts os := id rfl
def f53r22 : List AI := [⟨none, (.mov 81 (.t 0))⟩]
theorem uf53r22 : type_of% @f53r22.eq_1 := id @f53r22.eq_1
def f53b23 : AQ := (.seq (.region f53r22) f53b21)
theorem uf53b23 (P ts os Q) : awl P f53b23 Q ts os = awl P (.seq (.region f53r22) f53b21) Q ts os := id rfl
def f53b24 : AQ := (.seq f53b23 f53b2)
theorem uf53b24 (P ts os Q) : awl P f53b24 Q ts os = awl P (.seq f53b23 f53b2) Q ts os := id rfl
def f53r25 : List AI := [⟨none, (.mov 73 (.t 1))⟩, ⟨none, (.iaddr 74 2 (.t 73) (.v (.k (.c (.int .i64 0)))))⟩, ⟨none, (.faddr 75 1 (.t 74))⟩, ⟨none, (.load 76 1 false (.t 75))⟩, ⟨none, (.mov 77 (.t 1))⟩, ⟨none, (.iaddr 78 2 (.t 77) (.v (.k (.c (.int .i64 1)))))⟩, ⟨none, (.faddr 79 1 (.t 78))⟩, ⟨none, (.load 80 1 false (.t 79))⟩, ⟨none, (.mov 6 (.t 76))⟩, ⟨none, (.mov 7 (.t 80))⟩]
theorem uf53r25 : type_of% @f53r25.eq_1 := id @f53r25.eq_1
def f53b26 : AQ := (.seq (.draw f53r25 [[], [0], [1], [2], [], [4], [5], [6], [3, 0, 1, 2, 3], [7, 8, 0, 1, 2, 3, 4, 5, 6, 7, 8]]) f53b24)
theorem uf53b26 (P ts os Q) : awl P f53b26 Q ts os = awl P (.seq (.draw f53r25 [[], [0], [1], [2], [], [4], [5], [6], [3, 0, 1, 2, 3], [7, 8, 0, 1, 2, 3, 4, 5, 6, 7, 8]]) f53b24) Q ts os := id rfl
def f53r27 : List AI := [⟨none, (.build 72 [(.bool false), (.int .i64 0)] [])⟩, ⟨none, (.store 2 (.t 4) (.t 72))⟩]
theorem uf53r27 : type_of% @f53r27.eq_1 := id @f53r27.eq_1
def f53b28 : AQ := (.seq (.region f53r27) .ret)
theorem uf53b28 (P ts os Q) : awl P f53b28 Q ts os = awl P (.seq (.region f53r27) .ret) Q ts os := id rfl
def f53b29 : AQ := (.cond (.t 71) f53b28 .skip)
theorem uf53b29 (P ts os Q) : awl P f53b29 Q ts os = awl P (.cond (.t 71) f53b28 .skip) Q ts os := id rfl
def f53r30 : List AI := [⟨none, (.mov 60 (.t 1))⟩, ⟨none, (.iaddr 61 2 (.t 60) (.v (.k (.c (.int .i64 0)))))⟩, ⟨none, (.faddr 62 0 (.t 61))⟩, ⟨none, (.load 63 1 false (.t 62))⟩, ⟨none, (.un 64 .not (.t 63))⟩, ⟨none, (.mov 65 (.t 64))⟩, ⟨(some (65, false)), (.mov 66 (.t 1))⟩, ⟨(some (65, false)), (.iaddr 67 2 (.t 66) (.v (.k (.c (.int .i64 1)))))⟩, ⟨(some (65, false)), (.faddr 68 0 (.t 67))⟩, ⟨(some (65, false)), (.load 69 1 false (.t 68))⟩, ⟨(some (65, false)), (.un 70 .not (.t 69))⟩, ⟨none, (.pick 71 (.t 65) (.v (.k (.c (.bool true)))) (.t 70))⟩]
theorem uf53r30 : type_of% @f53r30.eq_1 := id @f53r30.eq_1
def f53b31 : AQ := (.seq (.region f53r30) f53b29)
theorem uf53b31 (P ts os Q) : awl P f53b31 Q ts os = awl P (.seq (.region f53r30) f53b29) Q ts os := id rfl
def f53b32 : AQ := (.seq f53b31 f53b26)
theorem uf53b32 (P ts os Q) : awl P f53b32 Q ts os = awl P (.seq f53b31 f53b26) Q ts os := id rfl
def f53r33 : List AI := [⟨none, (.build 21 [(.bool false), (.int .i64 0)] [])⟩, ⟨none, (.store 2 (.t 4) (.t 21))⟩]
theorem uf53r33 : type_of% @f53r33.eq_1 := id @f53r33.eq_1
def f53b34 : AQ := (.seq (.region f53r33) .ret)
theorem uf53b34 (P ts os Q) : awl P f53b34 Q ts os = awl P (.seq (.region f53r33) .ret) Q ts os := id rfl
def f53r35 : List AI := [⟨none, (.mov 15 (.t 1))⟩, ⟨none, (.iaddr 16 2 (.t 15) (.v (.k (.c (.int .i64 0)))))⟩, ⟨none, (.faddr 17 1 (.t 16))⟩, ⟨none, (.load 18 1 false (.t 17))⟩, ⟨none, (.bin 19 .eql (.t 18) (.v (.k (.c (.int .i64 0)))))⟩, ⟨none, (.call (some 20) 64 [(.t 19)])⟩, ⟨none, (.store 2 (.t 4) (.t 20))⟩]
theorem uf53r35 : type_of% @f53r35.eq_1 := id @f53r35.eq_1
def f53b36 : AQ := (.seq (.region f53r35) .ret)
theorem uf53b36 (P ts os Q) : awl P f53b36 Q ts os = awl P (.seq (.region f53r35) .ret) Q ts os := id rfl
def f53b37 : AQ := (.cond (.t 14) f53b36 .skip)
theorem uf53b37 (P ts os Q) : awl P f53b37 Q ts os = awl P (.cond (.t 14) f53b36 .skip) Q ts os := id rfl
def f53r38 : List AI := [⟨none, (.mov 11 (.t 1))⟩, ⟨none, (.iaddr 12 2 (.t 11) (.v (.k (.c (.int .i64 0)))))⟩, ⟨none, (.faddr 13 0 (.t 12))⟩, ⟨none, (.load 14 1 false (.t 13))⟩]
theorem uf53r38 : type_of% @f53r38.eq_1 := id @f53r38.eq_1
def f53b39 : AQ := (.seq (.region f53r38) f53b37)
theorem uf53b39 (P ts os Q) : awl P f53b39 Q ts os = awl P (.seq (.region f53r38) f53b37) Q ts os := id rfl
def f53b40 : AQ := (.seq f53b39 f53b34)
theorem uf53b40 (P ts os Q) : awl P f53b40 Q ts os = awl P (.seq f53b39 f53b34) Q ts os := id rfl
def f53r41 : List AI := [⟨none, (.load 40 2 true (.t 5))⟩, ⟨none, (.store 2 (.t 4) (.t 40))⟩]
theorem uf53r41 : type_of% @f53r41.eq_1 := id @f53r41.eq_1
def f53b42 : AQ := (.seq (.region f53r41) .ret)
theorem uf53b42 (P ts os Q) : awl P f53b42 Q ts os = awl P (.seq (.region f53r41) .ret) Q ts os := id rfl
def f53b43 : AQ := (.cond (.t 39) f53b42 .skip)
theorem uf53b43 (P ts os Q) : awl P f53b43 Q ts os = awl P (.cond (.t 39) f53b42 .skip) Q ts os := id rfl
def f53r44 : List AI := [⟨none, (.mov 28 (.t 1))⟩, ⟨none, (.iaddr 29 2 (.t 28) (.v (.k (.c (.int .i64 0)))))⟩, ⟨none, (.load 30 2 true (.t 29))⟩, ⟨none, (.load 31 2 true (.t 5))⟩, ⟨none, (.eqAgg 32 false [.bool, .int] (.t 30) (.t 31))⟩, ⟨none, (.mov 33 (.t 32))⟩, ⟨(some (33, false)), (.mov 34 (.t 1))⟩, ⟨(some (33, false)), (.iaddr 35 2 (.t 34) (.v (.k (.c (.int .i64 1)))))⟩, ⟨(some (33, false)), (.load 36 2 true (.t 35))⟩, ⟨(some (33, false)), (.load 37 2 true (.t 5))⟩, ⟨(some (33, false)), (.eqAgg 38 false [.bool, .int] (.t 36) (.t 37))⟩, ⟨none, (.pick 39 (.t 33) (.v (.k (.c (.bool true)))) (.t 38))⟩]
theorem uf53r44 : type_of% @f53r44.eq_1 := id @f53r44.eq_1
def f53b45 : AQ := (.seq (.draw f53r44 [[], [0], [1], [], [2, 3], [4], [5], [6, 5], [7, 5], [5], [8, 9, 5], [5, 10]]) f53b43)
theorem uf53b45 (P ts os Q) : awl P f53b45 Q ts os = awl P (.seq (.draw f53r44 [[], [0], [1], [], [2, 3], [4], [5], [6, 5], [7, 5], [5], [8, 9, 5], [5, 10]]) f53b43) Q ts os := id rfl
def f53r46 : List AI := [⟨none, (.mov 25 (.t 0))⟩, ⟨none, (.bin 26 .eql (.t 25) (.v (.k (.c (.int .i64 5)))))⟩, ⟨none, (.call (some 27) 64 [(.t 26)])⟩, ⟨none, (.alloc 5 30 [(.bool false), (.int .i64 0)])⟩, ⟨none, (.store 2 (.t 5) (.t 27))⟩]
theorem uf53r46 : type_of% @f53r46.eq_1 := id @f53r46.eq_1
def f53b47 : AQ := (.seq (.region f53r46) f53b45)
theorem uf53b47 (P ts os Q) : awl P f53b47 Q ts os = awl P (.seq (.region f53r46) f53b45) Q ts os := id rfl
def f53r48 : List AI := [⟨none, (.build 59 [(.bool false), (.int .i64 0)] [])⟩, ⟨none, (.store 2 (.t 4) (.t 59))⟩]
theorem uf53r48 : type_of% @f53r48.eq_1 := id @f53r48.eq_1
def f53b49 : AQ := (.seq (.region f53r48) .ret)
theorem uf53b49 (P ts os Q) : awl P f53b49 Q ts os = awl P (.seq (.region f53r48) .ret) Q ts os := id rfl
def f53r50 : List AI := [⟨none, (.mov 56 (.t 1))⟩, ⟨none, (.iaddr 57 2 (.t 56) (.v (.k (.c (.int .i64 1)))))⟩, ⟨none, (.load 58 2 true (.t 57))⟩, ⟨none, (.store 2 (.t 4) (.t 58))⟩]
theorem uf53r50 : type_of% @f53r50.eq_1 := id @f53r50.eq_1
def f53b51 : AQ := (.seq (.region f53r50) .ret)
theorem uf53b51 (P ts os Q) : awl P f53b51 Q ts os = awl P (.seq (.region f53r50) .ret) Q ts os := id rfl
def f53b52 : AQ := (.cond (.t 55) f53b51 .skip)
theorem uf53b52 (P ts os Q) : awl P f53b52 Q ts os = awl P (.cond (.t 55) f53b51 .skip) Q ts os := id rfl
def f53r53 : List AI := [⟨none, (.mov 43 (.t 1))⟩, ⟨none, (.iaddr 44 2 (.t 43) (.v (.k (.c (.int .i64 1)))))⟩, ⟨none, (.faddr 45 0 (.t 44))⟩, ⟨none, (.load 46 1 false (.t 45))⟩, ⟨none, (.mov 47 (.t 46))⟩, ⟨(some (47, true)), (.mov 48 (.t 1))⟩, ⟨(some (47, true)), (.iaddr 49 2 (.t 48) (.v (.k (.c (.int .i64 1)))))⟩, ⟨(some (47, true)), (.load 50 2 true (.t 49))⟩, ⟨(some (47, true)), (.mov 51 (.t 1))⟩, ⟨(some (47, true)), (.iaddr 52 2 (.t 51) (.v (.k (.c (.int .i64 2)))))⟩, ⟨(some (47, true)), (.load 53 2 true (.t 52))⟩, ⟨(some (47, true)), (.eqAgg 54 false [.bool, .int] (.t 50) (.t 53))⟩, ⟨none, (.pick 55 (.t 47) (.t 54) (.v (.k (.c (.bool false)))))⟩]
theorem uf53r53 : type_of% @f53r53.eq_1 := id @f53r53.eq_1
def f53b54 : AQ := (.seq (.draw f53r53 [[], [0], [1], [2], [3], [4], [5, 4], [6, 4], [4], [8, 4], [9, 4], [7, 10, 4], [4, 11]]) f53b52)
theorem uf53b54 (P ts os Q) : awl P f53b54 Q ts os = awl P (.seq (.draw f53r53 [[], [0], [1], [2], [3], [4], [5, 4], [6, 4], [4], [8, 4], [9, 4], [7, 10, 4], [4, 11]]) f53b52) Q ts os := id rfl
def f53b55 : AQ := (.seq f53b54 f53b49)
theorem uf53b55 (P ts os Q) : awl P f53b55 Q ts os = awl P (.seq f53b54 f53b49) Q ts os := id rfl
def f53b56 : AQ := (.cond (.t 41) f53b55 .skip)
theorem uf53b56 (P ts os Q) : awl P f53b56 Q ts os = awl P (.cond (.t 41) f53b55 .skip) Q ts os := id rfl
def f53r57 : List AI := [⟨none, (.bin 42 .eql (.t 8) (.v (.k (.c (.int .i64 6)))))⟩, ⟨none, (.mov 41 (.t 42))⟩]
theorem uf53r57 : type_of% @f53r57.eq_1 := id @f53r57.eq_1
def f53b58 : AQ := (.seq (.region f53r57) f53b56)
theorem uf53b58 (P ts os Q) : awl P f53b58 Q ts os = awl P (.seq (.region f53r57) f53b56) Q ts os := id rfl
def f53b59 : AQ := (.cond (.t 22) f53b47 f53b58)
theorem uf53b59 (P ts os Q) : awl P f53b59 Q ts os = awl P (.cond (.t 22) f53b47 f53b58) Q ts os := id rfl
def f53r60 : List AI := [⟨none, (.bin 24 .eql (.t 8) (.v (.k (.c (.int .i64 5)))))⟩, ⟨none, (.mov 22 (.t 24))⟩]
theorem uf53r60 : type_of% @f53r60.eq_1 := id @f53r60.eq_1
def f53b61 : AQ := (.cond (.t 22) .skip (.region f53r60))
theorem uf53b61 (P ts os Q) : awl P f53b61 Q ts os = awl P (.cond (.t 22) .skip (.region f53r60)) Q ts os := id rfl
def f53r62 : List AI := [⟨none, (.bin 23 .eql (.t 8) (.v (.k (.c (.int .i64 4)))))⟩, ⟨none, (.mov 22 (.t 23))⟩]
theorem uf53r62 : type_of% @f53r62.eq_1 := id @f53r62.eq_1
def f53b63 : AQ := (.seq (.region f53r62) f53b61)
theorem uf53b63 (P ts os Q) : awl P f53b63 Q ts os = awl P (.seq (.region f53r62) f53b61) Q ts os := id rfl
def f53b64 : AQ := (.seq f53b63 f53b59)
theorem uf53b64 (P ts os Q) : awl P f53b64 Q ts os = awl P (.seq f53b63 f53b59) Q ts os := id rfl
def f53b65 : AQ := (.cond (.t 9) f53b40 f53b64)
theorem uf53b65 (P ts os Q) : awl P f53b65 Q ts os = awl P (.cond (.t 9) f53b40 f53b64) Q ts os := id rfl
def f53r66 : List AI := [⟨none, (.bin 10 .eql (.t 8) (.v (.k (.c (.int .i64 3)))))⟩, ⟨none, (.mov 9 (.t 10))⟩]
theorem uf53r66 : type_of% @f53r66.eq_1 := id @f53r66.eq_1
def f53b67 : AQ := (.seq (.region f53r66) f53b65)
theorem uf53b67 (P ts os Q) : awl P f53b67 Q ts os = awl P (.seq (.region f53r66) f53b65) Q ts os := id rfl
def f53b68 : AQ := (.block 0 f53b67)
theorem uf53b68 (P ts os Q) : awl P f53b68 Q ts os = awl P (.block 0 f53b67) Q ts os := id rfl
def f53r69 : List AI := [⟨none, (.mov 8 (.t 0))⟩]
theorem uf53r69 : type_of% @f53r69.eq_1 := id @f53r69.eq_1
def f53b70 : AQ := (.seq (.region f53r69) f53b68)
theorem uf53b70 (P ts os Q) : awl P f53b70 Q ts os = awl P (.seq (.region f53r69) f53b68) Q ts os := id rfl
def f53b71 : AQ := (.seq f53b70 f53b32)
theorem uf53b71 (P ts os Q) : awl P f53b71 Q ts os = awl P (.seq f53b70 f53b32) Q ts os := id rfl
def f53r72 : List AI := [⟨none, (.alloc 4 30 [(.bool false), (.int .i64 0)])⟩]
theorem uf53r72 : type_of% @f53r72.eq_1 := id @f53r72.eq_1
def f53b73 : AQ := (.seq (.region f53r72) f53b71)
theorem uf53b73 (P ts os Q) : awl P f53b73 Q ts os = awl P (.seq (.region f53r72) f53b71) Q ts os := id rfl
def f53 : AQ := f53b73
theorem uf53 (P ts os Q) : awl P f53 Q ts os = awl P f53b73 Q ts os := id rfl
theorem hf53 : cFunc Tryd.prog 53 = some ⟨105, f53.erase, [(RX.cell 4 2 true)]⟩ := by kernel_rfl
theorem okf53 : f53.ok = true := by kernel_rfl
end Go.Abs
