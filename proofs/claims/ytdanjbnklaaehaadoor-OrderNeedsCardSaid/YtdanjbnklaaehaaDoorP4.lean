/- A part of the proof; the last text states what is proved. -/
import Derived.Test.YtdanjbnklaaehaaDoorP3
import Derived.Test.YtdanjbnklaaehaaDoorProg
import Derived.IntWalk
set_option linter.unusedVariables false
set_option linter.unusedSimpArgs false
set_option maxRecDepth 100000
namespace Go.Abs
open Go.Proofs
theorem uu {a b : AQ} (h : a = b) (P ts os Q) : awl P a Q ts os = awl P b Q ts os := h ▸ rfl
def f8r1 : List AI := [⟨none, (.mov 2 (.v (.k (.c (.bool true)))))⟩]
def f8b2 : AQ := (.seq (.region f8r1) .ret)
def f8r3 : List AI := [⟨none, (.mov 19 (.t 3))⟩, ⟨none, (.bin 20 .add (.t 19) (.v (.k (.c (.int .i64 1)))))⟩, ⟨none, (.mov 3 (.t 20))⟩]
def f8r4 : List AI := [⟨none, (.mov 2 (.v (.k (.c (.bool false)))))⟩]
def f8b5 : AQ := (.seq (.region f8r4) .ret)
def f8b6 : AQ := (.cond (.t 28) f8b5 .skip)
def f8r7 : List AI := [⟨none, (.faddr 21 3 (.t 1))⟩, ⟨none, (.load 22 1 false (.t 21))⟩, ⟨none, (.mov 23 (.t 3))⟩, ⟨none, (.iaddr 24 4 (.t 22) (.t 23))⟩, ⟨none, (.faddr 25 1 (.t 24))⟩, ⟨none, (.load 26 3 true (.t 25))⟩, ⟨none, (.call (some 27) 24 [(.t 26)])⟩, ⟨none, (.un 28 .not (.t 27))⟩]
def f8b8 : AQ := (.seq (.region f8r7) f8b6)
def f8b9 : AQ := (.block 1 f8b8)
def f8b10 : AQ := (.seq f8b9 (.region f8r3))
def f8b11 : AQ := (.cond (.t 18) .skip (.exit 0))
def f8r12 : List AI := [⟨none, (.mov 14 (.t 3))⟩, ⟨none, (.faddr 15 3 (.t 1))⟩, ⟨none, (.load 16 1 false (.t 15))⟩, ⟨none, (.len 17 (.t 16))⟩, ⟨none, (.bin 18 .lss (.t 14) (.t 17))⟩]
def f8b13 : AQ := (.seq (.region f8r12) f8b11)
def f8b14 : AQ := (.seq f8b13 f8b10)
def f8l15 : AQ := .loop [1, 3] [1] f8b14
theorem uf8l15 (P ts os Q) : awl P f8l15 Q ts os = awl P (.loop [1, 3] [1] f8b14) Q ts os := id rfl
def f8b16 : AQ := (.block 0 f8l15)
def f8r17 : List AI := [⟨none, (.mov 3 (.v (.k (.c (.int .i64 0)))))⟩]
def f8b18 : AQ := (.seq (.region f8r17) f8b16)
def f8b19 : AQ := (.seq f8b18 f8b2)
def f8r20 : List AI := [⟨none, (.mov 2 (.v (.k (.c (.bool false)))))⟩]
def f8b21 : AQ := (.seq (.region f8r20) .ret)
def f8b22 : AQ := (.cond (.t 13) f8b21 .skip)
def f8r23 : List AI := [⟨none, (.faddr 4 3 (.t 1))⟩, ⟨none, (.load 5 1 false (.t 4))⟩, ⟨none, (.len 6 (.t 5))⟩, ⟨none, (.bin 7 .gtr (.t 6) (.v (.k (.c (.int .i64 60)))))⟩, ⟨none, (.mov 8 (.t 7))⟩, ⟨(some (8, false)), (.faddr 9 2 (.t 1))⟩, ⟨(some (8, false)), (.load 10 1 false (.t 9))⟩, ⟨(some (8, false)), (.len 11 (.t 10))⟩, ⟨(some (8, false)), (.bin 12 .gtr (.t 11) (.v (.k (.c (.int .i64 60)))))⟩, ⟨none, (.pick 13 (.t 8) (.v (.k (.c (.bool true)))) (.t 12))⟩]
def f8b24 : AQ := (.seq (.region f8r23) f8b22)
def f8b25 : AQ := (.seq f8b24 f8b19)
def f8r26 : List AI := [⟨none, (.box 1 25 (.t 0))⟩, ⟨none, (.mov 2 (.v (.k (.c (.bool false)))))⟩]
def f8b27 : AQ := (.seq (.region f8r26) f8b25)
def f8 : AQ := f8b27
theorem hf8 : cFunc Tryd.prog 8 = some ⟨29, f8.erase, [(RX.t 2)]⟩ := by kernel_rfl
theorem okf8 : f8.ok = true := by kernel_rfl
def f9r1 : List AI := [⟨none, (.load 42 2 true (.t 10))⟩, ⟨none, (.store 2 (.t 6) (.t 42))⟩, ⟨none, (.mov 7 (.v (.k (.c (.int .i64 0)))))⟩]
def f9b2 : AQ := (.seq (.region f9r1) .ret)
def f9r3 : List AI := [⟨none, (.faddr 37 1 (.t 10))⟩, ⟨none, (.load 38 1 false (.t 37))⟩, ⟨none, (.minmax 39 true (.t 38) [(.v (.k (.c (.int .i64 0))))])⟩, ⟨none, (.minmax 40 false (.t 39) [(.v (.k (.c (.int .i64 20000))))])⟩, ⟨none, (.faddr 41 1 (.t 10))⟩, ⟨none, (.store 1 (.t 41) (.t 40))⟩]
def f9b4 : AQ := (.cond (.t 36) (.region f9r3) .skip)
def f9r5 : List AI := [⟨none, (.mov 31 (.t 11))⟩, ⟨none, (.bin 32 .eql (.t 31) (.v (.k (.c (.int .i64 0)))))⟩, ⟨none, (.mov 33 (.t 32))⟩, ⟨(some (33, true)), (.faddr 34 0 (.t 10))⟩, ⟨(some (33, true)), (.load 35 1 false (.t 34))⟩, ⟨none, (.pick 36 (.t 33) (.t 35) (.v (.k (.c (.bool false)))))⟩]
def f9b6 : AQ := (.seq (.region f9r5) f9b4)
def f9r7 : List AI := [⟨none, (.mov 27 (.t 1))⟩, ⟨none, (.call (some 28) 13 [(.t 27)])⟩, ⟨none, (.mov 26 (.t 28))⟩, ⟨none, (.extr 29 (.t 26) 0)⟩, ⟨none, (.extr 30 (.t 26) 1)⟩, ⟨none, (.mov 11 (.t 29))⟩, ⟨none, (.mov 12 (.t 30))⟩]
def f9b8 : AQ := (.seq (.region f9r7) f9b6)
def f9b9 : AQ := (.seq f9b8 f9b2)
def f9r10 : List AI := [⟨none, (.load 23 3 true (.t 8))⟩, ⟨none, (.mov 24 (.t 2))⟩, ⟨none, (.call (some 25) 26 [(.t 23), (.t 24)])⟩, ⟨none, (.alloc 10 30 [(.bool false), (.int .i64 0)])⟩, ⟨none, (.store 2 (.t 10) (.t 25))⟩]
def f9b11 : AQ := (.seq (.region f9r10) f9b9)
def f9r12 : List AI := [⟨none, (.build 21 [(.bool false), (.int .i64 0)] [])⟩, ⟨none, (.mov 22 (.t 9))⟩, ⟨none, (.store 2 (.t 6) (.t 21))⟩, ⟨none, (.mov 7 (.t 22))⟩]
def f9b13 : AQ := (.seq (.region f9r12) .ret)
def f9b14 : AQ := (.cond (.t 20) f9b13 .skip)
def f9r15 : List AI := [⟨none, (.mov 19 (.t 9))⟩, ⟨none, (.bin 20 .neq (.t 19) (.v (.k (.c (.int .i64 0)))))⟩]
def f9b16 : AQ := (.seq (.region f9r15) f9b14)
def f9b17 : AQ := (.seq f9b16 f9b11)
def f9r18 : List AI := [⟨none, (.load 14 4 true (.t 3))⟩, ⟨none, (.mov 15 (.t 1))⟩, ⟨none, (.call (some 16) 25 [(.t 14), (.t 15)])⟩, ⟨none, (.mov 13 (.t 16))⟩, ⟨none, (.extr 17 (.t 13) 0)⟩, ⟨none, (.extr 18 (.t 13) 1)⟩, ⟨none, (.alloc 8 50 [(.int .i64 0), (.int .i64 0), (.list 0 (some true) [])])⟩, ⟨none, (.store 3 (.t 8) (.t 17))⟩, ⟨none, (.mov 9 (.t 18))⟩]
def f9b19 : AQ := (.seq (.region f9r18) f9b17)
def f9r20 : List AI := [⟨none, (.box 3 25 (.t 0))⟩, ⟨none, (.alloc 6 30 [(.bool false), (.int .i64 0)])⟩, ⟨none, (.mov 7 (.v (.k (.c (.int .i64 0)))))⟩]
def f9b21 : AQ := (.seq (.region f9r20) f9b19)
def f9 : AQ := f9b21
theorem hf9 : cFunc Tryd.prog 9 = some ⟨43, f9.erase, [(RX.cell 6 2 true), (RX.t 7)]⟩ := by kernel_rfl
theorem okf9 : f9.ok = true := by kernel_rfl
def f10r1 : List AI := [⟨none, (.load 42 2 true (.t 9))⟩, ⟨none, (.store 2 (.t 6) (.t 42))⟩, ⟨none, (.mov 7 (.v (.k (.c (.int .i64 0)))))⟩]
def f10b2 : AQ := (.seq (.region f10r1) .ret)
def f10r3 : List AI := [⟨none, (.faddr 41 1 (.t 9))⟩, ⟨none, (.store 1 (.t 41) (.v (.k (.c (.int .i64 20000)))))⟩]
def f10b4 : AQ := (.cond (.t 40) (.region f10r3) .skip)
def f10r5 : List AI := [⟨none, (.faddr 38 1 (.t 9))⟩, ⟨none, (.load 39 1 false (.t 38))⟩, ⟨none, (.bin 40 .gtr (.t 39) (.v (.k (.c (.int .i64 20000)))))⟩]
def f10b6 : AQ := (.seq (.region f10r5) f10b4)
def f10r7 : List AI := [⟨none, (.faddr 37 1 (.t 9))⟩, ⟨none, (.store 1 (.t 37) (.v (.k (.c (.int .i64 0)))))⟩]
def f10b8 : AQ := (.cond (.t 36) (.region f10r7) .skip)
def f10r9 : List AI := [⟨none, (.faddr 34 1 (.t 9))⟩, ⟨none, (.load 35 1 false (.t 34))⟩, ⟨none, (.bin 36 .lss (.t 35) (.v (.k (.c (.int .i64 0)))))⟩]
def f10b10 : AQ := (.seq (.region f10r9) f10b8)
def f10b11 : AQ := (.seq f10b10 f10b6)
def f10b12 : AQ := (.cond (.t 33) f10b11 .skip)
def f10r13 : List AI := [⟨none, (.faddr 27 0 (.t 9))⟩, ⟨none, (.load 28 1 false (.t 27))⟩, ⟨none, (.mov 29 (.t 28))⟩, ⟨(some (29, true)), (.mov 30 (.t 1))⟩, ⟨(some (29, true)), (.call (some 31) 29 [(.t 30)])⟩, ⟨(some (29, true)), (.un 32 .not (.t 31))⟩, ⟨none, (.pick 33 (.t 29) (.t 32) (.v (.k (.c (.bool false)))))⟩]
def f10b14 : AQ := (.seq (.region f10r13) f10b12)
def f10b15 : AQ := (.seq f10b14 f10b2)
def f10r16o0 : AI := ⟨none, (.faddr 17 3 (.t 3))⟩
def f10r16o1 : AI := ⟨none, (.load 18 1 false (.t 17))⟩
def f10r16o2 : AI := ⟨none, (.load 19 4 true (.t 3))⟩
def f10r16o3 : AI := ⟨none, (.mov 20 (.t 1))⟩
def f10r16o4 : AI := ⟨none, (.call (some 21) 21 [(.t 19), (.t 20)])⟩
def f10r16o5 : AI := ⟨none, (.iaddr 22 4 (.t 18) (.t 21))⟩
def f10r16o6 : AI := ⟨none, (.faddr 23 1 (.t 22))⟩
def f10r16o7 : AI := ⟨none, (.load 24 3 true (.t 23))⟩
def f10r16o8 : AI := ⟨none, (.mov 25 (.t 2))⟩
def f10r16o9 : AI := ⟨none, (.call (some 26) 28 [(.t 24), (.t 25)])⟩
def f10r16o10 : AI := ⟨none, (.alloc 9 30 [(.bool false), (.int .i64 0)])⟩
def f10r16o11 : AI := ⟨none, (.store 2 (.t 9) (.t 26))⟩
def f10r16 : List AI := [f10r16o0, f10r16o1, f10r16o2, f10r16o3, f10r16o4, f10r16o5, f10r16o6, f10r16o7, f10r16o8, f10r16o9, f10r16o10, f10r16o11]
theorem utf10r16 : treeOf f10r16 [[], [0], [], [], [2, 3], [1, 4], [5], [6], [], [7, 8, 4], [], [10, 9, 9, 0, 1, 2, 3, 4, 5, 6, 7, 8, 9, 10]] = (.one f10r16o10 (.one f10r16o0 (.one f10r16o1 (.one f10r16o2 (.one f10r16o3 (.one f10r16o4 (.one f10r16o5 (.one f10r16o6 (.one f10r16o7 (.one f10r16o8 (.one f10r16o9 (.one f10r16o11 .done)))))))))))) := by kernel_rfl
def f10b17 : AQ := (.seq (.tree f10r16 [[], [0], [], [], [2, 3], [1, 4], [5], [6], [], [7, 8, 4], [], [10, 9, 9, 0, 1, 2, 3, 4, 5, 6, 7, 8, 9, 10]]) (.keep [1, 6, 9] [6, 9, 26, 27000, 27001, 27002] f10b15))
def f10r18 : List AI := [⟨none, (.build 15 [(.bool false), (.int .i64 0)] [])⟩, ⟨none, (.mov 16 (.t 8))⟩, ⟨none, (.store 2 (.t 6) (.t 15))⟩, ⟨none, (.mov 7 (.t 16))⟩]
def f10b19 : AQ := (.seq (.region f10r18) .ret)
def f10b20 : AQ := (.cond (.t 14) f10b19 .skip)
def f10r21 : List AI := [⟨none, (.mov 13 (.t 8))⟩, ⟨none, (.bin 14 .neq (.t 13) (.v (.k (.c (.int .i64 0)))))⟩]
def f10b22 : AQ := (.seq (.region f10r21) f10b20)
def f10b23 : AQ := (.seq f10b22 f10b17)
def f10r24 : List AI := [⟨none, (.load 10 4 true (.t 3))⟩, ⟨none, (.mov 11 (.t 1))⟩, ⟨none, (.call (some 12) 27 [(.t 10), (.t 11)])⟩, ⟨none, (.mov 8 (.t 12))⟩]
def f10b25 : AQ := (.seq (.region f10r24) f10b23)
def f10r26 : List AI := [⟨none, (.box 3 25 (.t 0))⟩, ⟨none, (.alloc 6 30 [(.bool false), (.int .i64 0)])⟩, ⟨none, (.mov 7 (.v (.k (.c (.int .i64 0)))))⟩]
def f10b27 : AQ := (.seq (.region f10r26) f10b25)
def f10 : AQ := f10b27
theorem hf10 : cFunc Tryd.prog 10 = some ⟨43, f10.erase, [(RX.cell 6 2 true), (RX.t 7)]⟩ := by kernel_rfl
theorem okf10 : f10.ok = true := by kernel_rfl
def f11r1 : List AI := [⟨none, (.mov 31 (.t 1))⟩, ⟨none, (.build 32 [(.int .i64 0), (.int .i64 0), (.bool false)] [(0, (1, (.t 31))), (1, (1, (.v (.k (.c (.int .i64 0))))))])⟩, ⟨none, (.store 3 (.t 4) (.t 32))⟩, ⟨none, (.mov 5 (.v (.k (.c (.int .i64 0)))))⟩]
def f11b2 : AQ := (.seq (.region f11r1) .ret)
def f11r3 : List AI := [⟨none, (.bin 30 .add (.t 21) (.v (.k (.c (.int .i64 1)))))⟩, ⟨none, (.mov 21 (.t 30))⟩]
def f11r4 : List AI := [⟨none, (.load 29 3 true (.t 9))⟩, ⟨none, (.store 3 (.t 4) (.t 29))⟩, ⟨none, (.mov 5 (.v (.k (.c (.int .i64 0)))))⟩]
def f11b5 : AQ := (.seq (.region f11r4) .ret)
def f11b6 : AQ := (.cond (.t 28) f11b5 .skip)
def f11r7 : List AI := [⟨none, (.faddr 25 0 (.t 9))⟩, ⟨none, (.load 26 1 false (.t 25))⟩, ⟨none, (.mov 27 (.t 1))⟩, ⟨none, (.bin 28 .eql (.t 26) (.t 27))⟩]
def f11b8 : AQ := (.seq (.region f11r7) f11b6)
def f11r9 : List AI := [⟨none, (.iaddr 23 3 (.t 19) (.t 21))⟩, ⟨none, (.load 24 3 true (.t 23))⟩, ⟨none, (.alloc 9 35 [(.int .i64 0), (.int .i64 0), (.bool false)])⟩, ⟨none, (.store 3 (.t 9) (.t 24))⟩]
def f11b10 : AQ := (.seq (.region f11r9) f11b8)
def f11b11 : AQ := (.block 1 f11b10)
def f11b12 : AQ := (.seq f11b11 (.region f11r3))
def f11b13 : AQ := (.cond (.t 22) .skip (.exit 0))
def f11b14 : AQ := (.seq f11b13 f11b12)
def f11r15 : List AI := [⟨none, (.bin 22 .lss (.t 21) (.t 20))⟩]
def f11b16 : AQ := (.seq (.region f11r15) f11b14)
def f11l17 : AQ := .loop [1, 4, 19, 20, 21] [4] f11b16
theorem uf11l17 (P ts os Q) : awl P f11l17 Q ts os = awl P (.loop [1, 4, 19, 20, 21] [4] f11b16) Q ts os := id rfl
def f11b18 : AQ := (.block 0 f11l17)
def f11r19 : List AI := [⟨none, (.faddr 18 2 (.t 2))⟩, ⟨none, (.load 19 1 false (.t 18))⟩, ⟨none, (.len 20 (.t 19))⟩, ⟨none, (.mov 21 (.v (.k (.c (.int .i64 0)))))⟩]
def f11b20 : AQ := (.seq (.region f11r19) f11b18)
def f11b21 : AQ := (.seq f11b20 f11b2)
def f11r22 : List AI := [⟨none, (.build 17 [(.int .i64 0), (.int .i64 0), (.bool false)] [])⟩, ⟨none, (.store 3 (.t 4) (.t 17))⟩, ⟨none, (.mov 5 (.v (.k (.c (.int .i64 1)))))⟩]
def f11b23 : AQ := (.seq (.region f11r22) .ret)
def f11b24 : AQ := (.cond (.t 16) f11b23 .skip)
def f11r25 : List AI := [⟨none, (.mov 15 (.t 7))⟩, ⟨none, (.un 16 .not (.t 15))⟩]
def f11b26 : AQ := (.seq (.region f11r25) f11b24)
def f11r27 : List AI := [⟨none, (.mov 11 (.t 1))⟩, ⟨none, (.call (some 12) 13 [(.t 11)])⟩, ⟨none, (.mov 10 (.t 12))⟩, ⟨none, (.extr 13 (.t 10) 0)⟩, ⟨none, (.extr 14 (.t 10) 1)⟩, ⟨none, (.mov 6 (.t 13))⟩, ⟨none, (.mov 7 (.t 14))⟩]
def f11b28 : AQ := (.seq (.region f11r27) f11b26)
def f11b29 : AQ := (.seq f11b28 f11b21)
def f11r30 : List AI := [⟨none, (.box 2 25 (.t 0))⟩, ⟨none, (.alloc 4 35 [(.int .i64 0), (.int .i64 0), (.bool false)])⟩, ⟨none, (.mov 5 (.v (.k (.c (.int .i64 0)))))⟩]
def f11b31 : AQ := (.seq (.region f11r30) f11b29)
def f11 : AQ := f11b31
theorem hf11 : cFunc Tryd.prog 11 = some ⟨33, f11.erase, [(RX.cell 4 3 true), (RX.t 5)]⟩ := by kernel_rfl
theorem okf11 : f11.ok = true := by kernel_rfl
def f12r1 : List AI := [⟨none, (.mov 31 (.t 1))⟩, ⟨none, (.build 32 [(.int .i64 0), (.int .i64 0), (.bool false)] [(0, (1, (.t 31))), (1, (1, (.v (.k (.c (.int .i64 0))))))])⟩, ⟨none, (.store 3 (.t 4) (.t 32))⟩, ⟨none, (.mov 5 (.v (.k (.c (.int .i64 0)))))⟩]
def f12b2 : AQ := (.seq (.region f12r1) .ret)
def f12r3 : List AI := [⟨none, (.mov 16 (.t 6))⟩, ⟨none, (.bin 17 .add (.t 16) (.v (.k (.c (.int .i64 1)))))⟩, ⟨none, (.mov 6 (.t 17))⟩]
def f12r4 : List AI := [⟨none, (.faddr 26 2 (.t 2))⟩, ⟨none, (.load 27 1 false (.t 26))⟩, ⟨none, (.mov 28 (.t 6))⟩, ⟨none, (.iaddr 29 3 (.t 27) (.t 28))⟩, ⟨none, (.load 30 3 true (.t 29))⟩, ⟨none, (.store 3 (.t 4) (.t 30))⟩, ⟨none, (.mov 5 (.v (.k (.c (.int .i64 0)))))⟩]
def f12b5 : AQ := (.seq (.region f12r4) .ret)
def f12b6 : AQ := (.cond (.t 25) f12b5 .skip)
def f12r7 : List AI := [⟨none, (.faddr 18 2 (.t 2))⟩, ⟨none, (.load 19 1 false (.t 18))⟩, ⟨none, (.mov 20 (.t 6))⟩, ⟨none, (.iaddr 21 3 (.t 19) (.t 20))⟩, ⟨none, (.faddr 22 0 (.t 21))⟩, ⟨none, (.load 23 1 false (.t 22))⟩, ⟨none, (.mov 24 (.t 1))⟩, ⟨none, (.bin 25 .eql (.t 23) (.t 24))⟩]
def f12b8 : AQ := (.seq (.region f12r7) f12b6)
def f12b9 : AQ := (.block 1 f12b8)
def f12b10 : AQ := (.seq f12b9 (.region f12r3))
def f12b11 : AQ := (.cond (.t 15) .skip (.exit 0))
def f12r12 : List AI := [⟨none, (.mov 11 (.t 6))⟩, ⟨none, (.faddr 12 2 (.t 2))⟩, ⟨none, (.load 13 1 false (.t 12))⟩, ⟨none, (.len 14 (.t 13))⟩, ⟨none, (.bin 15 .lss (.t 11) (.t 14))⟩]
def f12b13 : AQ := (.seq (.region f12r12) f12b11)
def f12b14 : AQ := (.seq f12b13 f12b10)
def f12l15 : AQ := .loop [1, 2, 4, 6] [2, 4] f12b14
theorem uf12l15 (P ts os Q) : awl P f12l15 Q ts os = awl P (.loop [1, 2, 4, 6] [2, 4] f12b14) Q ts os := id rfl
def f12b16 : AQ := (.block 0 f12l15)
def f12r17 : List AI := [⟨none, (.mov 6 (.v (.k (.c (.int .i64 0)))))⟩]
def f12b18 : AQ := (.seq (.region f12r17) f12b16)
def f12b19 : AQ := (.seq f12b18 f12b2)
def f12r20 : List AI := [⟨none, (.build 10 [(.int .i64 0), (.int .i64 0), (.bool false)] [])⟩, ⟨none, (.store 3 (.t 4) (.t 10))⟩, ⟨none, (.mov 5 (.v (.k (.c (.int .i64 1)))))⟩]
def f12b21 : AQ := (.seq (.region f12r20) .ret)
def f12b22 : AQ := (.cond (.t 9) f12b21 .skip)
def f12r23 : List AI := [⟨none, (.mov 7 (.t 1))⟩, ⟨none, (.call (some 8) 30 [(.t 7)])⟩, ⟨none, (.un 9 .not (.t 8))⟩]
def f12b24 : AQ := (.seq (.region f12r23) f12b22)
def f12b25 : AQ := (.seq f12b24 f12b19)
def f12r26 : List AI := [⟨none, (.box 2 25 (.t 0))⟩, ⟨none, (.alloc 4 35 [(.int .i64 0), (.int .i64 0), (.bool false)])⟩, ⟨none, (.mov 5 (.v (.k (.c (.int .i64 0)))))⟩]
def f12b27 : AQ := (.seq (.region f12r26) f12b25)
def f12 : AQ := f12b27
theorem hf12 : cFunc Tryd.prog 12 = some ⟨33, f12.erase, [(RX.cell 4 3 true), (RX.t 5)]⟩ := by kernel_rfl
theorem okf12 : f12.ok = true := by kernel_rfl
def f13r1 : List AI := [⟨none, (.mov 2 (.v (.k (.c (.int .i64 1)))))⟩, ⟨none, (.mov 3 (.v (.k (.c (.bool true)))))⟩]
def f13b2 : AQ := (.seq (.region f13r1) .ret)
def f13r3 : List AI := [⟨none, (.mov 2 (.v (.k (.c (.int .i64 0)))))⟩, ⟨none, (.mov 3 (.v (.k (.c (.bool false)))))⟩]
def f13b4 : AQ := (.seq (.region f13r3) .ret)
def f13r5 : List AI := [⟨none, (.mov 2 (.v (.k (.c (.int .i64 0)))))⟩, ⟨none, (.mov 3 (.v (.k (.c (.bool true)))))⟩]
def f13b6 : AQ := (.seq (.region f13r5) .ret)
def f13b7 : AQ := (.cond (.t 11) f13b6 .skip)
def f13r8 : List AI := [⟨none, (.mov 12 (.v (.k (.c (C.gl 0)))))⟩, ⟨none, (.mov 13 (.t 0))⟩, ⟨none, (.call (some 14) 31 [(.t 12), (.t 13)])⟩, ⟨none, (.mov 11 (.t 14))⟩]
def f13b9 : AQ := (.seq (.region f13r8) f13b7)
def f13b10 : AQ := (.cond (.t 4) f13b4 f13b9)
def f13r11 : List AI := [⟨none, (.mov 5 (.t 0))⟩, ⟨none, (.bin 6 .lss (.t 5) (.v (.k (.c (.int .i64 0)))))⟩, ⟨none, (.mov 7 (.t 6))⟩, ⟨(some (7, false)), (.mov 8 (.t 0))⟩, ⟨(some (7, false)), (.bin 9 .geq (.t 8) (.v (.k (.c (.int .i64 22)))))⟩, ⟨none, (.pick 10 (.t 7) (.v (.k (.c (.bool true)))) (.t 9))⟩, ⟨none, (.mov 4 (.t 10))⟩]
def f13b12 : AQ := (.seq (.region f13r11) f13b10)
def f13b13 : AQ := (.block 0 f13b12)
def f13b14 : AQ := (.seq f13b13 f13b2)
def f13r15 : List AI := [⟨none, (.mov 2 (.v (.k (.c (.int .i64 0)))))⟩, ⟨none, (.mov 3 (.v (.k (.c (.bool false)))))⟩]
def f13b16 : AQ := (.seq (.region f13r15) f13b14)
def f13 : AQ := f13b16
theorem hf13 : cFunc Tryd.prog 13 = some ⟨15, f13.erase, [(RX.t 2), (RX.t 3)]⟩ := by kernel_rfl
theorem okf13 : f13.ok = true := by kernel_rfl
def f14r1 : List AI := [⟨none, (.mov 2 (.v (.k (.c (.int .i64 0)))))⟩, ⟨none, (.mov 3 (.v (.k (.c (.bool true)))))⟩]
def f14b2 : AQ := (.seq (.region f14r1) .ret)
def f14r3 : List AI := [⟨none, (.mov 2 (.v (.k (.c (.int .i64 1)))))⟩, ⟨none, (.mov 3 (.v (.k (.c (.bool true)))))⟩]
def f14b4 : AQ := (.seq (.region f14r3) .ret)
def f14b5 : AQ := (.cond (.t 8) f14b4 .skip)
def f14r6 : List AI := [⟨none, (.mov 7 (.t 0))⟩, ⟨none, (.call (some 8) 29 [(.t 7)])⟩]
def f14b7 : AQ := (.seq (.region f14r6) f14b5)
def f14b8 : AQ := (.seq f14b7 f14b2)
def f14r9 : List AI := [⟨none, (.mov 2 (.v (.k (.c (.int .i64 0)))))⟩, ⟨none, (.mov 3 (.v (.k (.c (.bool false)))))⟩]
def f14b10 : AQ := (.seq (.region f14r9) .ret)
def f14b11 : AQ := (.cond (.t 6) f14b10 .skip)
def f14r12 : List AI := [⟨none, (.mov 4 (.t 0))⟩, ⟨none, (.call (some 5) 30 [(.t 4)])⟩, ⟨none, (.un 6 .not (.t 5))⟩]
def f14b13 : AQ := (.seq (.region f14r12) f14b11)
def f14b14 : AQ := (.seq f14b13 f14b8)
def f14r15 : List AI := [⟨none, (.mov 2 (.v (.k (.c (.int .i64 0)))))⟩, ⟨none, (.mov 3 (.v (.k (.c (.bool false)))))⟩]
def f14b16 : AQ := (.seq (.region f14r15) f14b14)
def f14 : AQ := f14b16
theorem hf14 : cFunc Tryd.prog 14 = some ⟨9, f14.erase, [(RX.t 2), (RX.t 3)]⟩ := by kernel_rfl
theorem okf14 : f14.ok = true := by kernel_rfl
def f15r1 : List AI := [⟨none, (.mov 4 (.v (.k (.c (.bool true)))))⟩]
def f15b2 : AQ := (.seq (.region f15r1) .ret)
def f15r3 : List AI := [⟨none, (.mov 15 (.t 5))⟩, ⟨none, (.bin 16 .add (.t 15) (.v (.k (.c (.int .i64 1)))))⟩, ⟨none, (.mov 5 (.t 16))⟩]
def f15r4 : List AI := [⟨none, (.mov 4 (.v (.k (.c (.bool false)))))⟩]
def f15b5 : AQ := (.seq (.region f15r4) .ret)
def f15b6 : AQ := (.cond (.t 25) f15b5 .skip)
def f15r7 : List AI := [⟨none, (.mov 17 (.t 0))⟩, ⟨none, (.mov 18 (.t 5))⟩, ⟨none, (.iaddr 19 1 (.t 17) (.t 18))⟩, ⟨none, (.load 20 1 false (.t 19))⟩, ⟨none, (.mov 21 (.t 1))⟩, ⟨none, (.mov 22 (.t 5))⟩, ⟨none, (.iaddr 23 1 (.t 21) (.t 22))⟩, ⟨none, (.load 24 1 false (.t 23))⟩, ⟨none, (.bin 25 .neq (.t 20) (.t 24))⟩]
def f15b8 : AQ := (.seq (.draw f15r7 [[], [], [0, 1], [2], [], [], [4, 5], [6], [3, 7]]) f15b6)
def f15b9 : AQ := (.block 1 f15b8)
def f15b10 : AQ := (.seq f15b9 (.region f15r3))
def f15b11 : AQ := (.cond (.t 14) .skip (.exit 0))
def f15r12 : List AI := [⟨none, (.mov 11 (.t 5))⟩, ⟨none, (.mov 12 (.t 0))⟩, ⟨none, (.len 13 (.t 12))⟩, ⟨none, (.bin 14 .lss (.t 11) (.t 13))⟩]
def f15b13 : AQ := (.seq (.region f15r12) f15b11)
def f15b14 : AQ := (.seq f15b13 f15b10)
def f15l15 : AQ := .loop [0, 1, 5] [] f15b14
theorem uf15l15 (P ts os Q) : awl P f15l15 Q ts os = awl P (.loop [0, 1, 5] [] f15b14) Q ts os := id rfl
def f15b16 : AQ := (.block 0 f15l15)
def f15r17 : List AI := [⟨none, (.mov 5 (.v (.k (.c (.int .i64 0)))))⟩]
def f15b18 : AQ := (.seq (.region f15r17) f15b16)
def f15b19 : AQ := (.seq f15b18 f15b2)
def f15r20 : List AI := [⟨none, (.mov 4 (.v (.k (.c (.bool false)))))⟩]
def f15b21 : AQ := (.seq (.region f15r20) .ret)
def f15b22 : AQ := (.cond (.t 10) f15b21 .skip)
def f15r23 : List AI := [⟨none, (.mov 6 (.t 0))⟩, ⟨none, (.len 7 (.t 6))⟩, ⟨none, (.mov 8 (.t 1))⟩, ⟨none, (.len 9 (.t 8))⟩, ⟨none, (.bin 10 .neq (.t 7) (.t 9))⟩]
def f15b24 : AQ := (.seq (.region f15r23) f15b22)
def f15b25 : AQ := (.seq f15b24 f15b19)
def f15r26 : List AI := [⟨none, (.mov 4 (.v (.k (.c (.bool false)))))⟩]
def f15b27 : AQ := (.seq (.region f15r26) f15b25)
def f15 : AQ := f15b27
theorem hf15 : cFunc Tryd.prog 15 = some ⟨26, f15.erase, [(RX.t 4)]⟩ := by kernel_rfl
theorem okf15 : f15.ok = true := by kernel_rfl
def f16r1 : List AI := [⟨none, (.load 17 3 true (.t 7))⟩, ⟨none, (.mov 18 (.t 2))⟩, ⟨none, (.call (some 19) 32 [(.t 17), (.t 18)])⟩, ⟨none, (.mov 6 (.t 19))⟩]
def f16b2 : AQ := (.seq (.region f16r1) .ret)
def f16r3 : List AI := [⟨none, (.nilL 6 3 1)⟩]
def f16b4 : AQ := (.seq (.region f16r3) .ret)
def f16b5 : AQ := (.cond (.t 16) f16b4 .skip)
def f16r6 : List AI := [⟨none, (.mov 15 (.t 8))⟩, ⟨none, (.bin 16 .neq (.t 15) (.v (.k (.c (.int .i64 0)))))⟩]
def f16b7 : AQ := (.seq (.region f16r6) f16b5)
def f16b8 : AQ := (.seq f16b7 f16b2)
def f16r9 : List AI := [⟨none, (.load 10 4 true (.t 3))⟩, ⟨none, (.mov 11 (.t 1))⟩, ⟨none, (.call (some 12) 25 [(.t 10), (.t 11)])⟩, ⟨none, (.mov 9 (.t 12))⟩, ⟨none, (.extr 13 (.t 9) 0)⟩, ⟨none, (.extr 14 (.t 9) 1)⟩, ⟨none, (.alloc 7 50 [(.int .i64 0), (.int .i64 0), (.list 0 (some true) [])])⟩, ⟨none, (.store 3 (.t 7) (.t 13))⟩, ⟨none, (.mov 8 (.t 14))⟩]
def f16b10 : AQ := (.seq (.region f16r9) f16b8)
def f16r11 : List AI := [⟨none, (.box 3 25 (.t 0))⟩, ⟨none, (.nilL 6 3 1)⟩]
def f16b12 : AQ := (.seq (.region f16r11) f16b10)
def f16 : AQ := f16b12
theorem hf16 : cFunc Tryd.prog 16 = some ⟨20, f16.erase, [(RX.t 6)]⟩ := by kernel_rfl
theorem okf16 : f16.ok = true := by kernel_rfl
def f17r1 : List AI := [⟨none, (.faddr 11 3 (.t 3))⟩, ⟨none, (.load 12 1 false (.t 11))⟩, ⟨none, (.load 13 4 true (.t 3))⟩, ⟨none, (.mov 14 (.t 1))⟩, ⟨none, (.call (some 15) 21 [(.t 13), (.t 14)])⟩, ⟨none, (.iaddr 16 4 (.t 12) (.t 15))⟩, ⟨none, (.faddr 17 1 (.t 16))⟩, ⟨none, (.load 18 3 true (.t 17))⟩, ⟨none, (.mov 19 (.t 2))⟩, ⟨none, (.call (some 20) 33 [(.t 18), (.t 19)])⟩, ⟨none, (.mov 6 (.t 20))⟩]
def f17b2 : AQ := (.seq (.draw f17r1 [[], [0], [], [], [2, 3], [1, 4], [5], [6], [], [7, 8, 4], [9, 9, 0, 1, 2, 3, 4, 5, 6, 7, 8, 9]]) .ret)
def f17r3 : List AI := [⟨none, (.nilL 6 3 1)⟩]
def f17b4 : AQ := (.seq (.region f17r3) .ret)
def f17b5 : AQ := (.cond (.t 10) f17b4 .skip)
def f17r6 : List AI := [⟨none, (.load 7 4 true (.t 3))⟩, ⟨none, (.mov 8 (.t 1))⟩, ⟨none, (.call (some 9) 27 [(.t 7), (.t 8)])⟩, ⟨none, (.bin 10 .neq (.t 9) (.v (.k (.c (.int .i64 0)))))⟩]
def f17b7 : AQ := (.seq (.region f17r6) f17b5)
def f17b8 : AQ := (.seq f17b7 f17b2)
def f17r9 : List AI := [⟨none, (.box 3 25 (.t 0))⟩, ⟨none, (.nilL 6 3 1)⟩]
def f17b10 : AQ := (.seq (.region f17r9) f17b8)
def f17 : AQ := f17b10
theorem hf17 : cFunc Tryd.prog 17 = some ⟨21, f17.erase, [(RX.t 6)]⟩ := by kernel_rfl
theorem okf17 : f17.ok = true := by kernel_rfl
def f18r1 : List AI := [⟨none, (.load 15 3 true (.t 5))⟩, ⟨none, (.call (some 16) 34 [(.t 15)])⟩, ⟨none, (.mov 4 (.t 16))⟩]
def f18b2 : AQ := (.seq (.region f18r1) .ret)
def f18r3 : List AI := [⟨none, (.nilL 4 3 1)⟩]
def f18b4 : AQ := (.seq (.region f18r3) .ret)
def f18b5 : AQ := (.cond (.t 14) f18b4 .skip)
def f18r6 : List AI := [⟨none, (.mov 13 (.t 6))⟩, ⟨none, (.bin 14 .neq (.t 13) (.v (.k (.c (.int .i64 0)))))⟩]
def f18b7 : AQ := (.seq (.region f18r6) f18b5)
def f18b8 : AQ := (.seq f18b7 f18b2)
def f18r9 : List AI := [⟨none, (.load 8 4 true (.t 2))⟩, ⟨none, (.mov 9 (.t 1))⟩, ⟨none, (.call (some 10) 25 [(.t 8), (.t 9)])⟩, ⟨none, (.mov 7 (.t 10))⟩, ⟨none, (.extr 11 (.t 7) 0)⟩, ⟨none, (.extr 12 (.t 7) 1)⟩, ⟨none, (.alloc 5 50 [(.int .i64 0), (.int .i64 0), (.list 0 (some true) [])])⟩, ⟨none, (.store 3 (.t 5) (.t 11))⟩, ⟨none, (.mov 6 (.t 12))⟩]
def f18b10 : AQ := (.seq (.region f18r9) f18b8)
def f18r11 : List AI := [⟨none, (.box 2 25 (.t 0))⟩, ⟨none, (.nilL 4 3 1)⟩]
def f18b12 : AQ := (.seq (.region f18r11) f18b10)
def f18 : AQ := f18b12
theorem hf18 : cFunc Tryd.prog 18 = some ⟨17, f18.erase, [(RX.t 4)]⟩ := by kernel_rfl
theorem okf18 : f18.ok = true := by kernel_rfl
def f19r1 : List AI := [⟨none, (.faddr 9 3 (.t 2))⟩, ⟨none, (.load 10 1 false (.t 9))⟩, ⟨none, (.load 11 4 true (.t 2))⟩, ⟨none, (.mov 12 (.t 1))⟩, ⟨none, (.call (some 13) 21 [(.t 11), (.t 12)])⟩, ⟨none, (.iaddr 14 4 (.t 10) (.t 13))⟩, ⟨none, (.faddr 15 1 (.t 14))⟩, ⟨none, (.load 16 3 true (.t 15))⟩, ⟨none, (.call (some 17) 35 [(.t 16)])⟩, ⟨none, (.mov 4 (.t 17))⟩]
def f19b2 : AQ := (.seq (.draw f19r1 [[], [0], [], [], [2, 3], [1, 4], [5], [6], [7, 4], [8, 8, 0, 1, 2, 3, 4, 5, 6, 7, 8]]) .ret)
def f19r3 : List AI := [⟨none, (.nilL 4 3 1)⟩]
def f19b4 : AQ := (.seq (.region f19r3) .ret)
def f19b5 : AQ := (.cond (.t 8) f19b4 .skip)
def f19r6 : List AI := [⟨none, (.load 5 4 true (.t 2))⟩, ⟨none, (.mov 6 (.t 1))⟩, ⟨none, (.call (some 7) 27 [(.t 5), (.t 6)])⟩, ⟨none, (.bin 8 .neq (.t 7) (.v (.k (.c (.int .i64 0)))))⟩]
def f19b7 : AQ := (.seq (.region f19r6) f19b5)
def f19b8 : AQ := (.seq f19b7 f19b2)
def f19r9 : List AI := [⟨none, (.box 2 25 (.t 0))⟩, ⟨none, (.nilL 4 3 1)⟩]
def f19b10 : AQ := (.seq (.region f19r9) f19b8)
def f19 : AQ := f19b10
theorem hf19 : cFunc Tryd.prog 19 = some ⟨18, f19.erase, [(RX.t 4)]⟩ := by kernel_rfl
theorem okf19 : f19.ok = true := by kernel_rfl
def f20r1 : List AI := [⟨none, (.mov 50 (.t 5))⟩, ⟨none, (.mov 4 (.t 50))⟩]
def f20b2 : AQ := (.seq (.region f20r1) .ret)
def f20r3 : List AI := [⟨none, (.mov 17 (.t 6))⟩, ⟨none, (.bin 18 .add (.t 17) (.v (.k (.c (.int .i64 1)))))⟩, ⟨none, (.mov 6 (.t 18))⟩]
def f20r4 : List AI := [⟨none, (.mov 36 (.t 5))⟩, ⟨none, (.mov 37 (.t 0))⟩, ⟨none, (.mov 38 (.t 6))⟩, ⟨none, (.iaddr 39 2 (.t 37) (.t 38))⟩, ⟨none, (.load 40 2 true (.t 39))⟩, ⟨none, (.bslice 41 30 2 [(.bool false), (.int .i64 0)] 1 [(0, (.t 40))])⟩, ⟨none, (.append 42 30 2 16 (.t 36) (.t 41))⟩, ⟨none, (.mov 5 (.t 42))⟩]
def f20r5 : List AI := [⟨none, (.mov 43 (.t 5))⟩, ⟨none, (.mov 44 (.t 1))⟩, ⟨none, (.mov 45 (.t 6))⟩, ⟨none, (.iaddr 46 2 (.t 44) (.t 45))⟩, ⟨none, (.load 47 2 true (.t 46))⟩, ⟨none, (.bslice 48 30 2 [(.bool false), (.int .i64 0)] 1 [(0, (.t 47))])⟩, ⟨none, (.append 49 30 2 16 (.t 43) (.t 48))⟩, ⟨none, (.mov 5 (.t 49))⟩]
def f20b6 : AQ := (.cond (.t 35) (.region f20r4) (.region f20r5))
def f20r7 : List AI := [⟨none, (.mov 19 (.t 6))⟩, ⟨none, (.mov 20 (.t 0))⟩, ⟨none, (.len 21 (.t 20))⟩, ⟨none, (.bin 22 .lss (.t 19) (.t 21))⟩, ⟨none, (.mov 23 (.t 22))⟩, ⟨(some (23, true)), (.mov 24 (.t 0))⟩, ⟨(some (23, true)), (.mov 25 (.t 6))⟩, ⟨(some (23, true)), (.iaddr 26 2 (.t 24) (.t 25))⟩, ⟨(some (23, true)), (.faddr 27 0 (.t 26))⟩, ⟨(some (23, true)), (.load 28 1 false (.t 27))⟩, ⟨(some (23, true)), (.mov 29 (.t 28))⟩, ⟨(some (29, false)), (.mov 30 (.t 6))⟩, ⟨(some (29, false)), (.mov 31 (.t 1))⟩, ⟨(some (29, false)), (.len 32 (.t 31))⟩, ⟨(some (29, false)), (.bin 33 .geq (.t 30) (.t 32))⟩, ⟨(some (23, true)), (.pick 34 (.t 29) (.v (.k (.c (.bool true)))) (.t 33))⟩, ⟨none, (.pick 35 (.t 23) (.t 34) (.v (.k (.c (.bool false)))))⟩]
def f20b8 : AQ := (.seq (.region f20r7) f20b6)
def f20b9 : AQ := (.block 1 f20b8)
def f20b10 : AQ := (.seq f20b9 (.region f20r3))
def f20b11 : AQ := (.cond (.t 16) .skip (.exit 0))
def f20r12 : List AI := [⟨none, (.mov 7 (.t 6))⟩, ⟨none, (.mov 8 (.t 0))⟩, ⟨none, (.len 9 (.t 8))⟩, ⟨none, (.bin 10 .lss (.t 7) (.t 9))⟩, ⟨none, (.mov 11 (.t 10))⟩, ⟨(some (11, false)), (.mov 12 (.t 6))⟩, ⟨(some (11, false)), (.mov 13 (.t 1))⟩, ⟨(some (11, false)), (.len 14 (.t 13))⟩, ⟨(some (11, false)), (.bin 15 .lss (.t 12) (.t 14))⟩, ⟨none, (.pick 16 (.t 11) (.v (.k (.c (.bool true)))) (.t 15))⟩]
def f20b13 : AQ := (.seq (.region f20r12) f20b11)
def f20b14 : AQ := (.seq f20b13 f20b10)
def f20l15 : AQ := .loop [0, 1, 5, 6] [5, 42, 49] f20b14
theorem uf20l15 (P ts os Q) : awl P f20l15 Q ts os = awl P (.loop [0, 1, 5, 6] [5, 42, 49] f20b14) Q ts os := id rfl
def f20b16 : AQ := (.block 0 f20l15)
def f20r17 : List AI := [⟨none, (.mov 6 (.v (.k (.c (.int .i64 0)))))⟩]
def f20b18 : AQ := (.seq (.region f20r17) f20b16)
def f20b19 : AQ := (.seq f20b18 f20b2)
def f20r20 : List AI := [⟨none, (.nilL 5 30 2)⟩]
def f20b21 : AQ := (.seq (.region f20r20) f20b19)
def f20r22 : List AI := [⟨none, (.nilL 4 30 2)⟩]
def f20b23 : AQ := (.seq (.region f20r22) f20b21)
def f20 : AQ := f20b23
theorem hf20 : cFunc Tryd.prog 20 = some ⟨51, f20.erase, [(RX.t 4)]⟩ := by kernel_rfl
theorem okf20 : f20.ok = true := by kernel_rfl
def f21r1 : List AI := [⟨none, (.mov 4 (.v (.k (.c (.int .i64 (-1))))))⟩]
def f21b2 : AQ := (.seq (.region f21r1) .ret)
def f21r3 : List AI := [⟨none, (.mov 11 (.t 5))⟩, ⟨none, (.bin 12 .add (.t 11) (.v (.k (.c (.int .i64 1)))))⟩, ⟨none, (.mov 5 (.t 12))⟩]
def f21r4 : List AI := [⟨none, (.mov 21 (.t 5))⟩, ⟨none, (.mov 4 (.t 21))⟩]
def f21b5 : AQ := (.seq (.region f21r4) .ret)
def f21b6 : AQ := (.cond (.t 20) f21b5 .skip)
def f21r7 : List AI := [⟨none, (.faddr 13 3 (.t 2))⟩, ⟨none, (.load 14 1 false (.t 13))⟩, ⟨none, (.mov 15 (.t 5))⟩, ⟨none, (.iaddr 16 4 (.t 14) (.t 15))⟩, ⟨none, (.faddr 17 0 (.t 16))⟩, ⟨none, (.load 18 1 false (.t 17))⟩, ⟨none, (.mov 19 (.t 1))⟩, ⟨none, (.bin 20 .eql (.t 18) (.t 19))⟩]
def f21b8 : AQ := (.seq (.region f21r7) f21b6)
def f21b9 : AQ := (.block 1 f21b8)
def f21b10 : AQ := (.seq f21b9 (.region f21r3))
def f21b11 : AQ := (.cond (.t 10) .skip (.exit 0))
def f21r12 : List AI := [⟨none, (.mov 6 (.t 5))⟩, ⟨none, (.faddr 7 3 (.t 2))⟩, ⟨none, (.load 8 1 false (.t 7))⟩, ⟨none, (.len 9 (.t 8))⟩, ⟨none, (.bin 10 .lss (.t 6) (.t 9))⟩]
def f21b13 : AQ := (.seq (.region f21r12) f21b11)
def f21b14 : AQ := (.seq f21b13 f21b10)
def f21l15 : AQ := .loop [1, 2, 5] [2] f21b14
theorem uf21l15 (P ts os Q) : awl P f21l15 Q ts os = awl P (.loop [1, 2, 5] [2] f21b14) Q ts os := id rfl
def f21b16 : AQ := (.block 0 f21l15)
def f21r17 : List AI := [⟨none, (.mov 5 (.v (.k (.c (.int .i64 0)))))⟩]
def f21b18 : AQ := (.seq (.region f21r17) f21b16)
def f21b19 : AQ := (.seq f21b18 f21b2)
def f21r20 : List AI := [⟨none, (.box 2 25 (.t 0))⟩, ⟨none, (.mov 4 (.v (.k (.c (.int .i64 0)))))⟩]
def f21b21 : AQ := (.seq (.region f21r20) f21b19)
def f21 : AQ := f21b21
theorem hf21 : cFunc Tryd.prog 21 = some ⟨22, f21.erase, [(RX.t 4)]⟩ := by kernel_rfl
theorem okf21 : f21.ok = true := by kernel_rfl
def f22r1 : List AI := [⟨none, (.build 18 [(.int .i64 0), (.int .i64 0), (.bool false)] [(0, (1, (.v (.k (.c (.int .i64 6)))))), (1, (1, (.v (.k (.c (.int .i64 2))))))])⟩, ⟨none, (.bslice 19 35 3 [(.int .i64 0), (.int .i64 0), (.bool false)] 1 [(0, (.t 18))])⟩, ⟨none, (.load 20 3 true (.t 5))⟩, ⟨none, (.build 21 [(.int .i64 0), (.int .i64 0), (.int .i64 0), (.list 0 (some true) [])] [(0, (1, (.v (.k (.c (.int .i64 2)))))), (1, (3, (.t 20)))])⟩, ⟨none, (.load 22 3 true (.t 4))⟩, ⟨none, (.build 23 [(.int .i64 0), (.int .i64 0), (.int .i64 0), (.list 0 (some true) [])] [(0, (1, (.v (.k (.c (.int .i64 6)))))), (1, (3, (.t 22)))])⟩, ⟨none, (.bslice 24 52 4 [(.int .i64 0), (.int .i64 0), (.int .i64 0), (.list 0 (some true) [])] 2 [(0, (.t 21)), (1, (.t 23))])⟩, ⟨none, (.build 25 [(.str []), (.bool false), (.list 0 (some true) []), (.list 0 (some true) [])] [(2, (1, (.t 19))), (3, (1, (.t 24)))])⟩, ⟨none, (.store 4 (.t 0) (.t 25))⟩]
def f22b2 : AQ := (.seq (.region f22r1) (.frz 24 (.frz 19 .ret)))
def f22r3 : List AI := [⟨none, (.load 14 3 true (.t 1))⟩, ⟨none, (.load 15 3 true (.t 2))⟩, ⟨none, (.bslice 16 50 3 [(.int .i64 0), (.int .i64 0), (.list 0 (some true) [])] 2 [(0, (.t 14)), (1, (.t 15))])⟩, ⟨none, (.build 17 [(.int .i64 0), (.int .i64 0), (.list 0 (some true) [])] [(0, (1, (.v (.k (.c (.int .i64 4)))))), (2, (1, (.t 16)))])⟩, ⟨none, (.alloc 5 50 [(.int .i64 0), (.int .i64 0), (.list 0 (some true) [])])⟩, ⟨none, (.store 3 (.t 5) (.t 17))⟩]
def f22b4 : AQ := (.seq (.region f22r3) (.frz 16 f22b2))
def f22r5 : List AI := [⟨none, (.load 9 3 true (.t 3))⟩, ⟨none, (.build 10 [(.int .i64 0), (.int .i64 0), (.list 0 (some true) [])] [(1, (1, (.v (.k (.c (.int .i64 0))))))])⟩, ⟨none, (.build 11 [(.int .i64 0), (.int .i64 0), (.list 0 (some true) [])] [(1, (1, (.v (.k (.c (.int .i64 30000))))))])⟩, ⟨none, (.bslice 12 50 3 [(.int .i64 0), (.int .i64 0), (.list 0 (some true) [])] 3 [(0, (.t 9)), (1, (.t 10)), (2, (.t 11))])⟩, ⟨none, (.build 13 [(.int .i64 0), (.int .i64 0), (.list 0 (some true) [])] [(0, (1, (.v (.k (.c (.int .i64 6)))))), (2, (1, (.t 12)))])⟩, ⟨none, (.alloc 4 50 [(.int .i64 0), (.int .i64 0), (.list 0 (some true) [])])⟩, ⟨none, (.store 3 (.t 4) (.t 13))⟩]
def f22b6 : AQ := (.seq (.region f22r5) (.frz 12 f22b4))
def f22r7 : List AI := [⟨none, (.build 8 [(.int .i64 0), (.int .i64 0), (.list 0 (some true) [])] [(0, (1, (.v (.k (.c (.int .i64 2)))))), (1, (1, (.v (.k (.c (.int .i64 10))))))])⟩, ⟨none, (.alloc 3 50 [(.int .i64 0), (.int .i64 0), (.list 0 (some true) [])])⟩, ⟨none, (.store 3 (.t 3) (.t 8))⟩]
def f22b8 : AQ := (.seq (.region f22r7) f22b6)
def f22r9 : List AI := [⟨none, (.build 7 [(.int .i64 0), (.int .i64 0), (.list 0 (some true) [])] [(0, (1, (.v (.k (.c (.int .i64 2)))))), (1, (1, (.v (.k (.c (.int .i64 17))))))])⟩, ⟨none, (.alloc 2 50 [(.int .i64 0), (.int .i64 0), (.list 0 (some true) [])])⟩, ⟨none, (.store 3 (.t 2) (.t 7))⟩]
def f22b10 : AQ := (.seq (.region f22r9) f22b8)
def f22r11 : List AI := [⟨none, (.build 6 [(.int .i64 0), (.int .i64 0), (.list 0 (some true) [])] [(0, (1, (.v (.k (.c (.int .i64 2)))))), (1, (1, (.v (.k (.c (.int .i64 15))))))])⟩, ⟨none, (.alloc 1 50 [(.int .i64 0), (.int .i64 0), (.list 0 (some true) [])])⟩, ⟨none, (.store 3 (.t 1) (.t 6))⟩]
def f22b12 : AQ := (.seq (.region f22r11) f22b10)
def f22r13 : List AI := [⟨none, (.alloc 0 25 [(.str []), (.bool false), (.list 0 (some true) []), (.list 0 (some true) [])])⟩]
def f22b14 : AQ := (.seq (.region f22r13) f22b12)
def f22 : AQ := f22b14
theorem hf22 : cFunc Tryd.prog 22 = some ⟨26, f22.erase, [(RX.cell 0 4 true)]⟩ := by kernel_rfl
theorem okf22 : f22.ok = true := by kernel_rfl
def f23r1 : List AI := [⟨none, (.mov 12 (.t 5))⟩, ⟨none, (.mov 4 (.t 12))⟩]
def f23b2 : AQ := (.seq (.region f23r1) .ret)
def f23r3 : List AI := [⟨none, (.mov 7 (.t 5))⟩, ⟨none, (.mov 8 (.t 0))⟩, ⟨none, (.mov 9 (.t 1))⟩, ⟨none, (.build 10 [(.bool false), (.int .i64 0)] [(0, (1, (.v (.k (.c (.bool true)))))), (1, (1, (.t 9)))])⟩, ⟨none, (.iaddr 11 2 (.t 7) (.t 8))⟩, ⟨none, (.store 2 (.t 11) (.t 10))⟩]
def f23b4 : AQ := (.seq (.region f23r3) f23b2)
def f23r5 : List AI := [⟨none, (.mkslice 6 30 2 16 [(.bool false), (.int .i64 0)] (.v (.k (.c (.int .i64 20)))) (.v (.k (.c (.int .i64 20)))))⟩, ⟨none, (.mov 5 (.t 6))⟩]
def f23b6 : AQ := (.seq (.region f23r5) f23b4)
def f23r7 : List AI := [⟨none, (.nilL 4 30 2)⟩]
def f23b8 : AQ := (.seq (.region f23r7) f23b6)
def f23 : AQ := f23b8
theorem hf23 : cFunc Tryd.prog 23 = some ⟨13, f23.erase, [(RX.t 4)]⟩ := by kernel_rfl
theorem okf23 : f23.ok = true := by kernel_rfl
def f24r1 : List AI := [⟨none, (.load 3 3 true (.t 1))⟩, ⟨none, (.call (some 4) 36 [(.t 3), (.v (.k (.c (.int .i64 100)))), (.v (.k (.c (.int .i64 20))))])⟩, ⟨none, (.bin 5 .geq (.t 4) (.v (.k (.c (.int .i64 0)))))⟩, ⟨none, (.mov 2 (.t 5))⟩]
def f24b2 : AQ := (.seq (.region f24r1) .ret)
def f24r3 : List AI := [⟨none, (.box 1 50 (.t 0))⟩, ⟨none, (.mov 2 (.v (.k (.c (.bool false)))))⟩]
def f24b4 : AQ := (.seq (.region f24r3) f24b2)
def f24 : AQ := f24b4
theorem hf24 : cFunc Tryd.prog 24 = some ⟨6, f24.erase, [(RX.t 2)]⟩ := by kernel_rfl
theorem okf24 : f24.ok = true := by kernel_rfl
def f25r1 : List AI := [⟨none, (.load 46 3 true (.t 9))⟩, ⟨none, (.store 3 (.t 4) (.t 46))⟩, ⟨none, (.mov 5 (.v (.k (.c (.int .i64 0)))))⟩]
def f25b2 : AQ := (.seq (.region f25r1) .ret)
def f25r3 : List AI := [⟨none, (.build 45 [(.int .i64 0), (.int .i64 0), (.list 0 (some true) [])] [])⟩, ⟨none, (.store 3 (.t 4) (.t 45))⟩, ⟨none, (.mov 5 (.v (.k (.c (.int .i64 11)))))⟩]
def f25b4 : AQ := (.seq (.region f25r3) .ret)
def f25b5 : AQ := (.cond (.t 44) f25b4 .skip)
def f25r6 : List AI := [⟨none, (.mov 38 (.t 11))⟩, ⟨none, (.bin 39 .neq (.t 38) (.v (.k (.c (.int .i64 0)))))⟩, ⟨none, (.mov 40 (.t 39))⟩, ⟨(some (40, false)), (.mov 41 (.t 10))⟩, ⟨(some (40, false)), (.mov 42 (.t 6))⟩, ⟨(some (40, false)), (.bin 43 .neq (.t 41) (.t 42))⟩, ⟨none, (.pick 44 (.t 40) (.v (.k (.c (.bool true)))) (.t 43))⟩]
def f25b7 : AQ := (.seq (.region f25r6) f25b5)
def f25r8 : List AI := [⟨none, (.load 34 3 true (.t 9))⟩, ⟨none, (.call (some 35) 39 [(.t 34)])⟩, ⟨none, (.mov 33 (.t 35))⟩, ⟨none, (.extr 36 (.t 33) 0)⟩, ⟨none, (.extr 37 (.t 33) 1)⟩, ⟨none, (.mov 10 (.t 36))⟩, ⟨none, (.mov 11 (.t 37))⟩]
def f25b9 : AQ := (.seq (.region f25r8) f25b7)
def f25b10 : AQ := (.seq f25b9 f25b2)
def f25r11 : List AI := [⟨none, (.faddr 27 3 (.t 2))⟩, ⟨none, (.load 28 1 false (.t 27))⟩, ⟨none, (.mov 29 (.t 8))⟩, ⟨none, (.iaddr 30 4 (.t 28) (.t 29))⟩, ⟨none, (.faddr 31 1 (.t 30))⟩, ⟨none, (.load 32 3 true (.t 31))⟩, ⟨none, (.alloc 9 50 [(.int .i64 0), (.int .i64 0), (.list 0 (some true) [])])⟩, ⟨none, (.store 3 (.t 9) (.t 32))⟩]
def f25b12 : AQ := (.seq (.region f25r11) f25b10)
def f25r13 : List AI := [⟨none, (.build 26 [(.int .i64 0), (.int .i64 0), (.list 0 (some true) [])] [])⟩, ⟨none, (.store 3 (.t 4) (.t 26))⟩, ⟨none, (.mov 5 (.v (.k (.c (.int .i64 4)))))⟩]
def f25b14 : AQ := (.seq (.region f25r13) .ret)
def f25b15 : AQ := (.cond (.t 25) f25b14 .skip)
def f25r16 : List AI := [⟨none, (.mov 24 (.t 8))⟩, ⟨none, (.bin 25 .lss (.t 24) (.v (.k (.c (.int .i64 0)))))⟩]
def f25b17 : AQ := (.seq (.region f25r16) f25b15)
def f25b18 : AQ := (.seq f25b17 f25b12)
def f25r19 : List AI := [⟨none, (.faddr 20 3 (.t 2))⟩, ⟨none, (.load 21 1 false (.t 20))⟩, ⟨none, (.mkfn 22 38 [(.t 3)])⟩, ⟨none, (.call (some 23) 37 [(.t 21), (.t 22)])⟩, ⟨none, (.mov 8 (.t 23))⟩]
def f25b20 : AQ := (.seq (.region f25r19) f25b18)
def f25r21 : List AI := [⟨none, (.build 19 [(.int .i64 0), (.int .i64 0), (.list 0 (some true) [])] [])⟩, ⟨none, (.store 3 (.t 4) (.t 19))⟩, ⟨none, (.mov 5 (.v (.k (.c (.int .i64 1)))))⟩]
def f25b22 : AQ := (.seq (.region f25r21) .ret)
def f25b23 : AQ := (.cond (.t 18) f25b22 .skip)
def f25r24 : List AI := [⟨none, (.mov 17 (.t 7))⟩, ⟨none, (.un 18 .not (.t 17))⟩]
def f25b25 : AQ := (.seq (.region f25r24) f25b23)
def f25b26 : AQ := (.seq f25b25 f25b20)
def f25r27 : List AI := [⟨none, (.load 13 1 false (.t 3))⟩, ⟨none, (.call (some 14) 13 [(.t 13)])⟩, ⟨none, (.mov 12 (.t 14))⟩, ⟨none, (.extr 15 (.t 12) 0)⟩, ⟨none, (.extr 16 (.t 12) 1)⟩, ⟨none, (.mov 6 (.t 15))⟩, ⟨none, (.mov 7 (.t 16))⟩]
def f25b28 : AQ := (.seq (.region f25r27) f25b26)
def f25r29 : List AI := [⟨none, (.box 2 25 (.t 0))⟩, ⟨none, (.box 3 3 (.t 1))⟩, ⟨none, (.alloc 4 50 [(.int .i64 0), (.int .i64 0), (.list 0 (some true) [])])⟩, ⟨none, (.mov 5 (.v (.k (.c (.int .i64 0)))))⟩]
def f25b30 : AQ := (.seq (.region f25r29) f25b28)
def f25 : AQ := f25b30
theorem hf25 : cFunc Tryd.prog 25 = some ⟨47, f25.erase, [(RX.cell 4 3 true), (RX.t 5)]⟩ := by kernel_rfl
theorem okf25 : f25.ok = true := by kernel_rfl
def f26r1 : List AI := [⟨none, (.load 24 2 true (.t 7))⟩, ⟨none, (.store 2 (.t 4) (.t 24))⟩]
def f26b2 : AQ := (.seq (.region f26r1) .ret)
def f26r3 : List AI := [⟨none, (.mov 18 (.t 1))⟩, ⟨none, (.build 19 [(.list 0 (some true) [])] [(0, (1, (.t 18)))])⟩, ⟨none, (.load 20 3 true (.t 2))⟩, ⟨none, (.call (some 21) 40 [(.t 19), (.t 20)])⟩, ⟨none, (.mov 17 (.t 21))⟩, ⟨none, (.extr 22 (.t 17) 0)⟩, ⟨none, (.extr 23 (.t 17) 1)⟩, ⟨none, (.alloc 7 30 [(.bool false), (.int .i64 0)])⟩, ⟨none, (.store 2 (.t 7) (.t 22))⟩, ⟨none, (.mov 8 (.t 23))⟩]
def f26b4 : AQ := (.seq (.region f26r3) f26b2)
def f26r5 : List AI := [⟨none, (.build 16 [(.bool false), (.int .i64 0)] [])⟩, ⟨none, (.store 2 (.t 4) (.t 16))⟩]
def f26b6 : AQ := (.seq (.region f26r5) .ret)
def f26b7 : AQ := (.cond (.t 15) f26b6 .skip)
def f26r8 : List AI := [⟨none, (.mov 14 (.t 6))⟩, ⟨none, (.bin 15 .neq (.t 14) (.v (.k (.c (.int .i64 0)))))⟩]
def f26b9 : AQ := (.seq (.region f26r8) f26b7)
def f26r10 : List AI := [⟨none, (.load 10 3 true (.t 2))⟩, ⟨none, (.call (some 11) 39 [(.t 10)])⟩, ⟨none, (.mov 9 (.t 11))⟩, ⟨none, (.extr 12 (.t 9) 0)⟩, ⟨none, (.extr 13 (.t 9) 1)⟩, ⟨none, (.mov 5 (.t 12))⟩, ⟨none, (.mov 6 (.t 13))⟩]
def f26b11 : AQ := (.seq (.region f26r10) f26b9)
def f26b12 : AQ := (.seq f26b11 f26b4)
def f26r13 : List AI := [⟨none, (.box 2 50 (.t 0))⟩, ⟨none, (.alloc 4 30 [(.bool false), (.int .i64 0)])⟩]
def f26b14 : AQ := (.seq (.region f26r13) f26b12)
def f26 : AQ := f26b14
theorem hf26 : cFunc Tryd.prog 26 = some ⟨25, f26.erase, [(RX.cell 4 2 true)]⟩ := by kernel_rfl
theorem okf26 : f26.ok = true := by kernel_rfl
def f27r1 : List AI := [⟨none, (.mov 4 (.v (.k (.c (.int .i64 0)))))⟩]
def f27b2 : AQ := (.seq (.region f27r1) .ret)
def f27r3 : List AI := [⟨none, (.mov 4 (.v (.k (.c (.int .i64 11)))))⟩]
def f27b4 : AQ := (.seq (.region f27r3) .ret)
def f27b5 : AQ := (.cond (.t 39) f27b4 .skip)
def f27r6 : List AI := [⟨none, (.mov 33 (.t 7))⟩, ⟨none, (.bin 34 .neq (.t 33) (.v (.k (.c (.int .i64 0)))))⟩, ⟨none, (.mov 35 (.t 34))⟩, ⟨(some (35, false)), (.mov 36 (.t 6))⟩, ⟨(some (35, false)), (.mov 37 (.t 8))⟩, ⟨(some (35, false)), (.bin 38 .neq (.t 36) (.t 37))⟩, ⟨none, (.pick 39 (.t 35) (.v (.k (.c (.bool true)))) (.t 38))⟩]
def f27b7 : AQ := (.seq (.region f27r6) f27b5)
def f27b8 : AQ := (.seq f27b7 f27b2)
def f27r9 : List AI := [⟨none, (.mov 29 (.t 1))⟩, ⟨none, (.call (some 30) 14 [(.t 29)])⟩, ⟨none, (.mov 28 (.t 30))⟩, ⟨none, (.extr 31 (.t 28) 0)⟩, ⟨none, (.extr 32 (.t 28) 1)⟩, ⟨none, (.mov 8 (.t 31))⟩, ⟨none, (.mov 9 (.t 32))⟩]
def f27b10 : AQ := (.seq (.region f27r9) f27b8)
def f27r11 : List AI := [⟨none, (.faddr 19 3 (.t 2))⟩, ⟨none, (.load 20 1 false (.t 19))⟩, ⟨none, (.mov 21 (.t 5))⟩, ⟨none, (.iaddr 22 4 (.t 20) (.t 21))⟩, ⟨none, (.faddr 23 1 (.t 22))⟩, ⟨none, (.load 24 3 true (.t 23))⟩, ⟨none, (.call (some 25) 41 [(.t 24)])⟩, ⟨none, (.mov 18 (.t 25))⟩, ⟨none, (.extr 26 (.t 18) 0)⟩, ⟨none, (.extr 27 (.t 18) 1)⟩, ⟨none, (.mov 6 (.t 26))⟩, ⟨none, (.mov 7 (.t 27))⟩]
def f27b12 : AQ := (.seq (.region f27r11) f27b10)
def f27r13 : List AI := [⟨none, (.mov 4 (.v (.k (.c (.int .i64 4)))))⟩]
def f27b14 : AQ := (.seq (.region f27r13) .ret)
def f27b15 : AQ := (.cond (.t 17) f27b14 .skip)
def f27r16 : List AI := [⟨none, (.mov 16 (.t 5))⟩, ⟨none, (.bin 17 .lss (.t 16) (.v (.k (.c (.int .i64 0)))))⟩]
def f27b17 : AQ := (.seq (.region f27r16) f27b15)
def f27b18 : AQ := (.seq f27b17 f27b12)
def f27r19 : List AI := [⟨none, (.load 13 4 true (.t 2))⟩, ⟨none, (.mov 14 (.t 1))⟩, ⟨none, (.call (some 15) 21 [(.t 13), (.t 14)])⟩, ⟨none, (.mov 5 (.t 15))⟩]
def f27b20 : AQ := (.seq (.region f27r19) f27b18)
def f27r21 : List AI := [⟨none, (.mov 4 (.v (.k (.c (.int .i64 1)))))⟩]
def f27b22 : AQ := (.seq (.region f27r21) .ret)
def f27b23 : AQ := (.cond (.t 12) f27b22 .skip)
def f27r24 : List AI := [⟨none, (.mov 10 (.t 1))⟩, ⟨none, (.call (some 11) 30 [(.t 10)])⟩, ⟨none, (.un 12 .not (.t 11))⟩]
def f27b25 : AQ := (.seq (.region f27r24) f27b23)
def f27b26 : AQ := (.seq f27b25 f27b20)
def f27r27 : List AI := [⟨none, (.box 2 25 (.t 0))⟩, ⟨none, (.mov 4 (.v (.k (.c (.int .i64 0)))))⟩]
def f27b28 : AQ := (.seq (.region f27r27) f27b26)
def f27 : AQ := f27b28
theorem hf27 : cFunc Tryd.prog 27 = some ⟨40, f27.erase, [(RX.t 4)]⟩ := by kernel_rfl
theorem okf27 : f27.ok = true := by kernel_rfl
def f28r1 : List AI := [⟨none, (.load 15 3 true (.t 2))⟩, ⟨none, (.mov 16 (.t 1))⟩, ⟨none, (.call (some 17) 42 [(.t 15), (.t 16)])⟩, ⟨none, (.store 2 (.t 4) (.t 17))⟩]
def f28b2 : AQ := (.seq (.region f28r1) .ret)
def f28r3 : List AI := [⟨none, (.build 14 [(.bool false), (.int .i64 0)] [])⟩, ⟨none, (.store 2 (.t 4) (.t 14))⟩]
def f28b4 : AQ := (.seq (.region f28r3) .ret)
def f28b5 : AQ := (.cond (.t 13) f28b4 .skip)
def f28r6 : List AI := [⟨none, (.mov 12 (.t 6))⟩, ⟨none, (.bin 13 .neq (.t 12) (.v (.k (.c (.int .i64 0)))))⟩]
def f28b7 : AQ := (.seq (.region f28r6) f28b5)
def f28b8 : AQ := (.seq f28b7 f28b2)
def f28r9 : List AI := [⟨none, (.load 8 3 true (.t 2))⟩, ⟨none, (.call (some 9) 41 [(.t 8)])⟩, ⟨none, (.mov 7 (.t 9))⟩, ⟨none, (.extr 10 (.t 7) 0)⟩, ⟨none, (.extr 11 (.t 7) 1)⟩, ⟨none, (.mov 5 (.t 10))⟩, ⟨none, (.mov 6 (.t 11))⟩]
def f28b10 : AQ := (.seq (.region f28r9) f28b8)
def f28r11 : List AI := [⟨none, (.box 2 50 (.t 0))⟩, ⟨none, (.alloc 4 30 [(.bool false), (.int .i64 0)])⟩]
def f28b12 : AQ := (.seq (.region f28r11) f28b10)
def f28 : AQ := f28b12
theorem hf28 : cFunc Tryd.prog 28 = some ⟨18, f28.erase, [(RX.cell 4 2 true)]⟩ := by kernel_rfl
theorem okf28 : f28.ok = true := by kernel_rfl
def f29r1 : List AI := [⟨none, (.mov 15 (.t 0))⟩, ⟨none, (.call (some 16) 43 [(.t 15), (.v (.k (.c (.int .i64 0)))), (.v (.k (.c (.int .i64 21))))])⟩, ⟨none, (.mov 2 (.t 16))⟩]
def f29b2 : AQ := (.seq (.region f29r1) .ret)
def f29r3 : List AI := [⟨none, (.mov 2 (.v (.k (.c (.bool false)))))⟩]
def f29b4 : AQ := (.seq (.region f29r3) .ret)
def f29b5 : AQ := (.cond (.t 4) f29b4 .skip)
def f29r6 : List AI := [⟨none, (.bin 14 .eql (.t 3) (.v (.k (.c (.int .i64 21)))))⟩, ⟨none, (.mov 4 (.t 14))⟩]
def f29b7 : AQ := (.cond (.t 4) .skip (.region f29r6))
def f29r8 : List AI := [⟨none, (.bin 13 .eql (.t 3) (.v (.k (.c (.int .i64 20)))))⟩, ⟨none, (.mov 4 (.t 13))⟩]
def f29b9 : AQ := (.seq (.region f29r8) f29b7)
def f29b10 : AQ := (.cond (.t 4) .skip f29b9)
def f29r11 : List AI := [⟨none, (.bin 12 .eql (.t 3) (.v (.k (.c (.int .i64 16)))))⟩, ⟨none, (.mov 4 (.t 12))⟩]
def f29b12 : AQ := (.seq (.region f29r11) f29b10)
def f29b13 : AQ := (.cond (.t 4) .skip f29b12)
def f29r14 : List AI := [⟨none, (.bin 11 .eql (.t 3) (.v (.k (.c (.int .i64 15)))))⟩, ⟨none, (.mov 4 (.t 11))⟩]
def f29b15 : AQ := (.seq (.region f29r14) f29b13)
def f29b16 : AQ := (.cond (.t 4) .skip f29b15)
def f29r17 : List AI := [⟨none, (.bin 10 .eql (.t 3) (.v (.k (.c (.int .i64 14)))))⟩, ⟨none, (.mov 4 (.t 10))⟩]
def f29b18 : AQ := (.seq (.region f29r17) f29b16)
def f29b19 : AQ := (.cond (.t 4) .skip f29b18)
def f29r20 : List AI := [⟨none, (.bin 9 .eql (.t 3) (.v (.k (.c (.int .i64 13)))))⟩, ⟨none, (.mov 4 (.t 9))⟩]
def f29b21 : AQ := (.seq (.region f29r20) f29b19)
def f29b22 : AQ := (.cond (.t 4) .skip f29b21)
def f29r23 : List AI := [⟨none, (.bin 8 .eql (.t 3) (.v (.k (.c (.int .i64 12)))))⟩, ⟨none, (.mov 4 (.t 8))⟩]
def f29b24 : AQ := (.seq (.region f29r23) f29b22)
def f29b25 : AQ := (.cond (.t 4) .skip f29b24)
def f29r26 : List AI := [⟨none, (.bin 7 .eql (.t 3) (.v (.k (.c (.int .i64 10)))))⟩, ⟨none, (.mov 4 (.t 7))⟩]
def f29b27 : AQ := (.seq (.region f29r26) f29b25)
def f29b28 : AQ := (.cond (.t 4) .skip f29b27)
def f29r29 : List AI := [⟨none, (.bin 6 .eql (.t 3) (.v (.k (.c (.int .i64 7)))))⟩, ⟨none, (.mov 4 (.t 6))⟩]
def f29b30 : AQ := (.seq (.region f29r29) f29b28)
def f29b31 : AQ := (.cond (.t 4) .skip f29b30)
def f29r32 : List AI := [⟨none, (.bin 5 .eql (.t 3) (.v (.k (.c (.int .i64 6)))))⟩, ⟨none, (.mov 4 (.t 5))⟩]
def f29b33 : AQ := (.seq (.region f29r32) f29b31)
def f29b34 : AQ := (.seq f29b33 f29b5)
def f29b35 : AQ := (.block 0 f29b34)
def f29r36 : List AI := [⟨none, (.mov 3 (.t 0))⟩]
def f29b37 : AQ := (.seq (.region f29r36) f29b35)
def f29b38 : AQ := (.seq f29b37 f29b2)
def f29r39 : List AI := [⟨none, (.mov 2 (.v (.k (.c (.bool false)))))⟩]
def f29b40 : AQ := (.seq (.region f29r39) f29b38)
def f29 : AQ := f29b40
theorem hf29 : cFunc Tryd.prog 29 = some ⟨17, f29.erase, [(RX.t 2)]⟩ := by kernel_rfl
theorem okf29 : f29.ok = true := by kernel_rfl
def f30r1 : List AI := [⟨none, (.mov 3 (.t 0))⟩, ⟨none, (.bin 4 .geq (.t 3) (.v (.k (.c (.int .i64 0)))))⟩, ⟨none, (.mov 5 (.t 4))⟩, ⟨(some (5, true)), (.mov 6 (.t 0))⟩, ⟨(some (5, true)), (.bin 7 .lss (.t 6) (.v (.k (.c (.int .i64 22)))))⟩, ⟨none, (.pick 8 (.t 5) (.t 7) (.v (.k (.c (.bool false)))))⟩, ⟨none, (.mov 2 (.t 8))⟩]
def f30b2 : AQ := (.seq (.region f30r1) .ret)
def f30r3 : List AI := [⟨none, (.mov 2 (.v (.k (.c (.bool false)))))⟩]
def f30b4 : AQ := (.seq (.region f30r3) f30b2)
def f30 : AQ := f30b4
theorem hf30 : cFunc Tryd.prog 30 = some ⟨9, f30.erase, [(RX.t 2)]⟩ := by kernel_rfl
theorem okf30 : f30.ok = true := by kernel_rfl
def f32r1 : List AI := [⟨none, (.mov 25 (.t 8))⟩, ⟨none, (.call (some 26) 46 [(.t 25)])⟩, ⟨none, (.mov 4 (.t 26))⟩]
def f32b2 : AQ := (.seq (.region f32r1) .ret)
def f32r3 : List AI := [⟨none, (.mov 23 (.t 8))⟩, ⟨none, (.call (some 24) 45 [(.t 23)])⟩]
def f32b4 : AQ := (.seq (.region f32r3) f32b2)
def f32r5 : List AI := [⟨none, (.mov 17 (.t 1))⟩, ⟨none, (.build 18 [(.list 0 (some true) [])] [(0, (1, (.t 17)))])⟩, ⟨none, (.load 19 3 true (.t 2))⟩, ⟨none, (.call (some 20) 40 [(.t 18), (.t 19)])⟩, ⟨none, (.mov 16 (.t 20))⟩, ⟨none, (.extr 21 (.t 16) 0)⟩, ⟨none, (.extr 22 (.t 16) 1)⟩, ⟨none, (.alloc 7 30 [(.bool false), (.int .i64 0)])⟩, ⟨none, (.store 2 (.t 7) (.t 21))⟩, ⟨none, (.mov 8 (.t 22))⟩]
def f32b6 : AQ := (.seq (.region f32r5) f32b4)
def f32r7 : List AI := [⟨none, (.nilL 4 3 1)⟩]
def f32b8 : AQ := (.seq (.region f32r7) .ret)
def f32b9 : AQ := (.cond (.t 15) f32b8 .skip)
def f32r10 : List AI := [⟨none, (.mov 14 (.t 6))⟩, ⟨none, (.bin 15 .neq (.t 14) (.v (.k (.c (.int .i64 0)))))⟩]
def f32b11 : AQ := (.seq (.region f32r10) f32b9)
def f32r12 : List AI := [⟨none, (.load 10 3 true (.t 2))⟩, ⟨none, (.call (some 11) 39 [(.t 10)])⟩, ⟨none, (.mov 9 (.t 11))⟩, ⟨none, (.extr 12 (.t 9) 0)⟩, ⟨none, (.extr 13 (.t 9) 1)⟩, ⟨none, (.mov 5 (.t 12))⟩, ⟨none, (.mov 6 (.t 13))⟩]
def f32b13 : AQ := (.seq (.region f32r12) f32b11)
def f32b14 : AQ := (.seq f32b13 f32b6)
def f32r15 : List AI := [⟨none, (.box 2 50 (.t 0))⟩, ⟨none, (.nilL 4 3 1)⟩]
def f32b16 : AQ := (.seq (.region f32r15) f32b14)
def f32 : AQ := f32b16
theorem hf32 : cFunc Tryd.prog 32 = some ⟨27, f32.erase, [(RX.t 4)]⟩ := by kernel_rfl
def f33r1 : List AI := [⟨none, (.mov 33 (.t 5))⟩, ⟨none, (.mov 4 (.t 33))⟩]
def f33b2 : AQ := (.seq (.region f33r1) .ret)
def f33r3 : List AI := [⟨none, (.mov 22 (.t 8))⟩, ⟨none, (.bin 23 .add (.t 22) (.v (.k (.c (.int .i64 1)))))⟩, ⟨none, (.mov 8 (.t 23))⟩]
def f33r4 : List AI := [⟨none, (.mov 29 (.t 5))⟩, ⟨none, (.mov 30 (.t 8))⟩, ⟨none, (.bslice 31 3 1 [(.int .i64 0)] 1 [(0, (.t 30))])⟩, ⟨none, (.append 32 3 1 8 (.t 29) (.t 31))⟩, ⟨none, (.mov 5 (.t 32))⟩]
def f33b5 : AQ := (.cond (.t 28) (.region f33r4) .skip)
def f33r6 : List AI := [⟨none, (.mov 28 (.t 9))⟩]
def f33b7 : AQ := (.seq (.region f33r6) f33b5)
def f33r8 : List AI := [⟨none, (.load 24 3 true (.t 2))⟩, ⟨none, (.mov 25 (.t 1))⟩, ⟨none, (.mov 26 (.t 8))⟩, ⟨none, (.call (some 27) 47 [(.t 24), (.t 25), (.t 26)])⟩, ⟨none, (.mov 9 (.t 27))⟩]
def f33b9 : AQ := (.seq (.region f33r8) f33b7)
def f33b10 : AQ := (.block 1 f33b9)
def f33b11 : AQ := (.seq f33b10 (.region f33r3))
def f33b12 : AQ := (.cond (.t 21) .skip (.exit 0))
def f33r13 : List AI := [⟨none, (.mov 16 (.t 8))⟩, ⟨none, (.bin 17 .lss (.t 16) (.v (.k (.c (.int .i64 20)))))⟩, ⟨none, (.mov 18 (.t 17))⟩, ⟨(some (18, true)), (.mov 19 (.t 7))⟩, ⟨(some (18, true)), (.bin 20 .eql (.t 19) (.v (.k (.c (.int .i64 0)))))⟩, ⟨none, (.pick 21 (.t 18) (.t 20) (.v (.k (.c (.bool false)))))⟩]
def f33b14 : AQ := (.seq (.region f33r13) f33b12)
def f33b15 : AQ := (.seq f33b14 f33b11)
def f33l16 : AQ := .loop [1, 2, 5, 7, 8] [2, 10, 32] f33b15
theorem uf33l16 (P ts os Q) : awl P f33l16 Q ts os = awl P (.loop [1, 2, 5, 7, 8] [2, 10, 32] f33b15) Q ts os := id rfl
def f33b17 : AQ := (.block 0 f33l16)
def f33r18 : List AI := [⟨none, (.mov 8 (.v (.k (.c (.int .i64 0)))))⟩]
def f33b19 : AQ := (.seq (.region f33r18) f33b17)
def f33b20 : AQ := (.seq f33b19 f33b2)
def f33r21 : List AI := [⟨none, (.load 12 3 true (.t 2))⟩, ⟨none, (.call (some 13) 41 [(.t 12)])⟩, ⟨none, (.mov 11 (.t 13))⟩, ⟨none, (.extr 14 (.t 11) 0)⟩, ⟨none, (.extr 15 (.t 11) 1)⟩, ⟨none, (.mov 6 (.t 14))⟩, ⟨none, (.mov 7 (.t 15))⟩]
def f33b22 : AQ := (.seq (.region f33r21) f33b20)
def f33r23 : List AI := [⟨none, (.bslice 10 3 1 [(.int .i64 0)] 0 [])⟩, ⟨none, (.mov 5 (.t 10))⟩]
def f33b24 : AQ := (.seq (.region f33r23) f33b22)
def f33r25 : List AI := [⟨none, (.box 2 50 (.t 0))⟩, ⟨none, (.nilL 4 3 1)⟩]
def f33b26 : AQ := (.seq (.region f33r25) f33b24)
def f33 : AQ := f33b26
theorem hf33 : cFunc Tryd.prog 33 = some ⟨34, f33.erase, [(RX.t 4)]⟩ := by kernel_rfl
theorem okf33 : f33.ok = true := by kernel_rfl
def f34r1 : List AI := [⟨none, (.load 20 1 false (.t 5))⟩, ⟨none, (.call (some 21) 46 [(.t 20)])⟩, ⟨none, (.mov 2 (.t 21))⟩]
def f34b2 : AQ := (.seq (.region f34r1) .ret)
def f34r3 : List AI := [⟨none, (.load 18 1 false (.t 5))⟩, ⟨none, (.call (some 19) 45 [(.t 18)])⟩]
def f34b4 : AQ := (.seq (.region f34r3) f34b2)
def f34r5 : List AI := [⟨none, (.load 15 1 false (.t 6))⟩, ⟨none, (.load 16 3 true (.t 1))⟩, ⟨none, (.callv (some 17) (.t 15) [(.t 16)])⟩]
def f34b6 : AQ := (.swap 6 1006 (.swap 5 1005 (.seq (.region f34r5) f34b4)))
def f34r7 : List AI := [⟨none, (.mkfn 14 48 [(.t 5), (.t 6)])⟩, ⟨none, (.store 1 (.t 6) (.t 14))⟩]
def f34b8 : AQ := (.seq (.region f34r7) f34b6)
def f34r9 : List AI := [⟨none, (.alloc 6 80 [.nilf])⟩]
def f34b10 : AQ := (.seq (.region f34r9) f34b8)
def f34r11 : List AI := [⟨none, (.alloc 5 41 [(.list 0 (some true) [])])⟩]
def f34b12 : AQ := (.seq (.region f34r11) (.own 5 1000 3 1 f34b10))
def f34r13 : List AI := [⟨none, (.nilL 2 3 1)⟩]
def f34b14 : AQ := (.seq (.region f34r13) .ret)
def f34b15 : AQ := (.cond (.t 13) f34b14 .skip)
def f34r16 : List AI := [⟨none, (.mov 12 (.t 4))⟩, ⟨none, (.bin 13 .neq (.t 12) (.v (.k (.c (.int .i64 0)))))⟩]
def f34b17 : AQ := (.seq (.region f34r16) f34b15)
def f34r18 : List AI := [⟨none, (.load 8 3 true (.t 1))⟩, ⟨none, (.call (some 9) 39 [(.t 8)])⟩, ⟨none, (.mov 7 (.t 9))⟩, ⟨none, (.extr 10 (.t 7) 0)⟩, ⟨none, (.extr 11 (.t 7) 1)⟩, ⟨none, (.mov 3 (.t 10))⟩, ⟨none, (.mov 4 (.t 11))⟩]
def f34b19 : AQ := (.seq (.region f34r18) f34b17)
def f34b20 : AQ := (.seq f34b19 f34b12)
def f34r21 : List AI := [⟨none, (.box 1 50 (.t 0))⟩, ⟨none, (.nilL 2 3 1)⟩]
def f34b22 : AQ := (.seq (.region f34r21) f34b20)
def f34 : AQ := f34b22
theorem hf34 : cFunc Tryd.prog 34 = some ⟨22, f34.erase, [(RX.t 2)]⟩ := by kernel_rfl
theorem okf34 : f34.ok = true := by kernel_rfl
def f35r1 : List AI := [⟨none, (.mov 30 (.t 3))⟩, ⟨none, (.mov 2 (.t 30))⟩]
def f35b2 : AQ := (.seq (.region f35r1) .ret)
def f35r3 : List AI := [⟨none, (.mov 20 (.t 6))⟩, ⟨none, (.bin 21 .add (.t 20) (.v (.k (.c (.int .i64 1)))))⟩, ⟨none, (.mov 6 (.t 21))⟩]
def f35r4 : List AI := [⟨none, (.mov 26 (.t 3))⟩, ⟨none, (.mov 27 (.t 6))⟩, ⟨none, (.bslice 28 3 1 [(.int .i64 0)] 1 [(0, (.t 27))])⟩, ⟨none, (.append 29 3 1 8 (.t 26) (.t 28))⟩, ⟨none, (.mov 3 (.t 29))⟩]
def f35b5 : AQ := (.cond (.t 25) (.region f35r4) .skip)
def f35r6 : List AI := [⟨none, (.mov 25 (.t 7))⟩]
def f35b7 : AQ := (.seq (.region f35r6) f35b5)
def f35r8 : List AI := [⟨none, (.load 22 3 true (.t 1))⟩, ⟨none, (.mov 23 (.t 6))⟩, ⟨none, (.call (some 24) 49 [(.t 22), (.t 23)])⟩, ⟨none, (.mov 7 (.t 24))⟩]
def f35b9 : AQ := (.seq (.region f35r8) f35b7)
def f35b10 : AQ := (.block 1 f35b9)
def f35b11 : AQ := (.seq f35b10 (.region f35r3))
def f35b12 : AQ := (.cond (.t 19) .skip (.exit 0))
def f35r13 : List AI := [⟨none, (.mov 14 (.t 6))⟩, ⟨none, (.bin 15 .lss (.t 14) (.v (.k (.c (.int .i64 20)))))⟩, ⟨none, (.mov 16 (.t 15))⟩, ⟨(some (16, true)), (.mov 17 (.t 5))⟩, ⟨(some (16, true)), (.bin 18 .eql (.t 17) (.v (.k (.c (.int .i64 0)))))⟩, ⟨none, (.pick 19 (.t 16) (.t 18) (.v (.k (.c (.bool false)))))⟩]
def f35b14 : AQ := (.seq (.region f35r13) f35b12)
def f35b15 : AQ := (.seq f35b14 f35b11)
def f35l16 : AQ := .loop [1, 3, 5, 6] [1, 8, 29] f35b15
theorem uf35l16 (P ts os Q) : awl P f35l16 Q ts os = awl P (.loop [1, 3, 5, 6] [1, 8, 29] f35b15) Q ts os := id rfl
def f35b17 : AQ := (.block 0 f35l16)
def f35r18 : List AI := [⟨none, (.mov 6 (.v (.k (.c (.int .i64 0)))))⟩]
def f35b19 : AQ := (.seq (.region f35r18) f35b17)
def f35b20 : AQ := (.seq f35b19 f35b2)
def f35r21 : List AI := [⟨none, (.load 10 3 true (.t 1))⟩, ⟨none, (.call (some 11) 41 [(.t 10)])⟩, ⟨none, (.mov 9 (.t 11))⟩, ⟨none, (.extr 12 (.t 9) 0)⟩, ⟨none, (.extr 13 (.t 9) 1)⟩, ⟨none, (.mov 4 (.t 12))⟩, ⟨none, (.mov 5 (.t 13))⟩]
def f35b22 : AQ := (.seq (.region f35r21) f35b20)
def f35r23 : List AI := [⟨none, (.bslice 8 3 1 [(.int .i64 0)] 0 [])⟩, ⟨none, (.mov 3 (.t 8))⟩]
def f35b24 : AQ := (.seq (.region f35r23) f35b22)
def f35r25 : List AI := [⟨none, (.box 1 50 (.t 0))⟩, ⟨none, (.nilL 2 3 1)⟩]
def f35b26 : AQ := (.seq (.region f35r25) f35b24)
def f35 : AQ := f35b26
theorem hf35 : cFunc Tryd.prog 35 = some ⟨31, f35.erase, [(RX.t 2)]⟩ := by kernel_rfl
theorem okf35 : f35.ok = true := by kernel_rfl
def f36r1 : List AI := [⟨none, (.mov 32 (.t 1))⟩, ⟨none, (.mov 6 (.t 32))⟩]
def f36b2 : AQ := (.seq (.region f36r1) .ret)
def f36r3 : List AI := [⟨none, (.mov 21 (.t 7))⟩, ⟨none, (.bin 22 .add (.t 21) (.v (.k (.c (.int .i64 1)))))⟩, ⟨none, (.mov 7 (.t 22))⟩]
def f36r4 : List AI := [⟨none, (.faddr 23 2 (.t 3))⟩, ⟨none, (.load 24 1 false (.t 23))⟩, ⟨none, (.mov 25 (.t 7))⟩, ⟨none, (.iaddr 26 3 (.t 24) (.t 25))⟩, ⟨none, (.load 27 3 true (.t 26))⟩, ⟨none, (.mov 28 (.t 1))⟩, ⟨none, (.mov 29 (.t 2))⟩, ⟨none, (.bin 30 .sub (.t 29) (.v (.k (.c (.int .i64 1)))))⟩, ⟨none, (.call (some 31) 36 [(.t 27), (.t 28), (.t 30)])⟩, ⟨none, (.mov 1 (.t 31))⟩]
def f36b5 : AQ := (.block 1 (.region f36r4))
def f36b6 : AQ := (.seq f36b5 (.region f36r3))
def f36b7 : AQ := (.cond (.t 20) .skip (.exit 0))
def f36r8 : List AI := [⟨none, (.mov 12 (.t 7))⟩, ⟨none, (.faddr 13 2 (.t 3))⟩, ⟨none, (.load 14 1 false (.t 13))⟩, ⟨none, (.len 15 (.t 14))⟩, ⟨none, (.bin 16 .lss (.t 12) (.t 15))⟩, ⟨none, (.mov 17 (.t 16))⟩, ⟨(some (17, true)), (.mov 18 (.t 1))⟩, ⟨(some (17, true)), (.bin 19 .geq (.t 18) (.v (.k (.c (.int .i64 0)))))⟩, ⟨none, (.pick 20 (.t 17) (.t 19) (.v (.k (.c (.bool false)))))⟩]
def f36b9 : AQ := (.seq (.region f36r8) f36b7)
def f36b10 : AQ := (.seq f36b9 f36b6)
def f36l11 : AQ := .loop [1, 2, 3, 7] [3] f36b10
theorem uf36l11 (P ts os Q) : awl P f36l11 Q ts os = awl P (.loop [1, 2, 3, 7] [3] f36b10) Q ts os := id rfl
def f36b12 : AQ := (.block 0 f36l11)
def f36r13 : List AI := [⟨none, (.mov 7 (.v (.k (.c (.int .i64 0)))))⟩]
def f36b14 : AQ := (.seq (.region f36r13) f36b12)
def f36b15 : AQ := (.seq f36b14 f36b2)
def f36r16 : List AI := [⟨none, (.mov 6 (.v (.k (.c (.int .i64 (-1))))))⟩]
def f36b17 : AQ := (.seq (.region f36r16) .ret)
def f36b18 : AQ := (.cond (.t 11) f36b17 .skip)
def f36r19 : List AI := [⟨none, (.mov 10 (.t 2))⟩, ⟨none, (.bin 11 .lss (.t 10) (.v (.k (.c (.int .i64 1)))))⟩]
def f36b20 : AQ := (.seq (.region f36r19) f36b18)
def f36b21 : AQ := (.seq f36b20 f36b15)
def f36r22 : List AI := [⟨none, (.mov 8 (.t 1))⟩, ⟨none, (.bin 9 .sub (.t 8) (.v (.k (.c (.int .i64 1)))))⟩, ⟨none, (.mov 1 (.t 9))⟩]
def f36b23 : AQ := (.seq (.region f36r22) f36b21)
def f36r24 : List AI := [⟨none, (.box 3 50 (.t 0))⟩, ⟨none, (.mov 6 (.v (.k (.c (.int .i64 0)))))⟩]
def f36b25 : AQ := (.seq (.region f36r24) f36b23)
def f36 : AQ := f36b25
theorem hf36 : cFunc Tryd.prog 36 = some ⟨33, f36.erase, [(RX.t 6)]⟩ := by kernel_rfl
theorem okf36 : f36.ok = true := by kernel_rfl
def f37r1 : List AI := [⟨none, (.mov 4 (.v (.k (.c (.int .i64 (-1))))))⟩]
def f37b2 : AQ := (.seq (.region f37r1) .ret)
def f37r3 : List AI := [⟨none, (.bin 18 .add (.t 8) (.v (.k (.c (.int .i64 1)))))⟩, ⟨none, (.mov 8 (.t 18))⟩]
def f37r4 : List AI := [⟨none, (.mov 17 (.t 5))⟩, ⟨none, (.mov 4 (.t 17))⟩]
def f37b5 : AQ := (.seq (.region f37r4) .ret)
def f37b6 : AQ := (.cond (.t 16) f37b5 .skip)
def f37r7 : List AI := [⟨none, (.mov 11 (.t 1))⟩, ⟨none, (.mov 12 (.t 0))⟩, ⟨none, (.mov 13 (.t 5))⟩, ⟨none, (.iaddr 14 4 (.t 12) (.t 13))⟩, ⟨none, (.load 15 4 true (.t 14))⟩, ⟨none, (.callv (some 16) (.t 11) [(.t 15)])⟩]
def f37b8 : AQ := (.seq (.region f37r7) f37b6)
def f37r9 : List AI := [⟨none, (.mov 10 (.t 8))⟩, ⟨none, (.mov 5 (.t 10))⟩]
def f37b10 : AQ := (.seq (.region f37r9) f37b8)
def f37b11 : AQ := (.block 1 f37b10)
def f37b12 : AQ := (.seq f37b11 (.region f37r3))
def f37b13 : AQ := (.cond (.t 9) .skip (.exit 0))
def f37b14 : AQ := (.seq f37b13 f37b12)
def f37r15 : List AI := [⟨none, (.bin 9 .lss (.t 8) (.t 7))⟩]
def f37b16 : AQ := (.seq (.region f37r15) f37b14)
def f37l17 : AQ := .loop [0, 1, 7, 8] [] f37b16
theorem uf37l17 (P ts os Q) : awl P f37l17 Q ts os = awl P (.loop [0, 1, 7, 8] [] f37b16) Q ts os := id rfl
def f37b18 : AQ := (.block 0 f37l17)
def f37r19 : List AI := [⟨none, (.mov 6 (.t 0))⟩, ⟨none, (.len 7 (.t 6))⟩, ⟨none, (.mov 8 (.v (.k (.c (.int .i64 0)))))⟩]
def f37b20 : AQ := (.seq (.region f37r19) f37b18)
def f37b21 : AQ := (.seq f37b20 f37b2)
def f37r22 : List AI := [⟨none, (.mov 4 (.v (.k (.c (.int .i64 0)))))⟩]
def f37b23 : AQ := (.seq (.region f37r22) f37b21)
def f37 : AQ := f37b23
theorem hf37 : cFunc Tryd.prog 37 = some ⟨19, f37.erase, [(RX.t 4)]⟩ := by kernel_rfl
theorem okf37 : f37.ok = true := by kernel_rfl
def f38r1 : List AI := [⟨none, (.faddr 4 0 (.t 2))⟩, ⟨none, (.load 5 1 false (.t 4))⟩, ⟨none, (.load 6 1 false (.t 1))⟩, ⟨none, (.bin 7 .eql (.t 5) (.t 6))⟩, ⟨none, (.mov 3 (.t 7))⟩]
def f38b2 : AQ := (.seq (.region f38r1) .ret)
def f38r3 : List AI := [⟨none, (.box 2 52 (.t 0))⟩, ⟨none, (.mov 3 (.v (.k (.c (.bool false)))))⟩]
def f38b4 : AQ := (.seq (.region f38r3) f38b2)
def f38 : AQ := f38b4
theorem hf38 : cFunc Tryd.prog 38 = some ⟨8, f38.erase, [(RX.t 3)]⟩ := by kernel_rfl
theorem okf38 : f38.ok = true := by kernel_rfl
def f39r1 : List AI := [⟨none, (.load 7 3 true (.t 1))⟩, ⟨none, (.call (some 8) 51 [(.t 7)])⟩, ⟨none, (.extr 9 (.t 8) 0)⟩, ⟨none, (.extr 10 (.t 8) 1)⟩, ⟨none, (.mov 2 (.t 9))⟩, ⟨none, (.mov 3 (.t 10))⟩]
def f39b2 : AQ := (.seq (.region f39r1) .ret)
def f39r3 : List AI := [⟨none, (.mov 2 (.v (.k (.c (.int .i64 0)))))⟩, ⟨none, (.mov 3 (.v (.k (.c (.int .i64 6)))))⟩]
def f39b4 : AQ := (.seq (.region f39r3) .ret)
def f39b5 : AQ := (.cond (.t 6) f39b4 .skip)
def f39r6 : List AI := [⟨none, (.load 4 3 true (.t 1))⟩, ⟨none, (.call (some 5) 50 [(.t 4), (.v (.k (.c (.int .i64 1))))])⟩, ⟨none, (.bin 6 .gtr (.t 5) (.v (.k (.c (.int .i64 60)))))⟩]
def f39b7 : AQ := (.seq (.region f39r6) f39b5)
def f39b8 : AQ := (.seq f39b7 f39b2)
def f39r9 : List AI := [⟨none, (.box 1 50 (.t 0))⟩, ⟨none, (.mov 2 (.v (.k (.c (.int .i64 0)))))⟩, ⟨none, (.mov 3 (.v (.k (.c (.int .i64 0)))))⟩]
def f39b10 : AQ := (.seq (.region f39r9) f39b8)
def f39 : AQ := f39b10
theorem hf39 : cFunc Tryd.prog 39 = some ⟨11, f39.erase, [(RX.t 2), (RX.t 3)]⟩ := by kernel_rfl
theorem okf39 : f39.ok = true := by kernel_rfl
def f40r1 : List AI := [⟨none, (.build 92 [(.bool false), (.int .i64 0)] [])⟩, ⟨none, (.mov 93 (.t 8))⟩, ⟨none, (.call (some 94) 54 [(.t 93)])⟩, ⟨none, (.store 2 (.t 4) (.t 92))⟩, ⟨none, (.mov 5 (.t 94))⟩]
def f40b2 : AQ := (.seq (.region f40r1) .ret)
def f40r3 : List AI := [⟨none, (.load 91 2 true (.t 12))⟩, ⟨none, (.store 2 (.t 4) (.t 91))⟩, ⟨none, (.nilL 5 3 1)⟩]
def f40b4 : AQ := (.seq (.region f40r3) .ret)
def f40b5 : AQ := (.cond (.t 90) f40b4 .skip)
def f40r6 : List AI := [⟨none, (.faddr 89 0 (.t 12))⟩, ⟨none, (.load 90 1 false (.t 89))⟩]
def f40b7 : AQ := (.seq (.region f40r6) f40b5)
def f40r8 : List AI := [⟨none, (.faddr 85 0 (.t 3))⟩, ⟨none, (.load 86 1 false (.t 85))⟩, ⟨none, (.mov 87 (.t 7))⟩, ⟨none, (.call (some 88) 53 [(.t 86), (.t 87)])⟩, ⟨none, (.alloc 12 30 [(.bool false), (.int .i64 0)])⟩, ⟨none, (.store 2 (.t 12) (.t 88))⟩]
def f40b9 : AQ := (.seq (.region f40r8) f40b7)
def f40b10 : AQ := (.seq f40b9 f40b2)
def f40r11o0 : AI := ⟨none, (.mov 77 (.t 7))⟩
def f40r11o1 : AI := ⟨none, (.mov 78 (.t 11))⟩
def f40r11o2 : AI := ⟨none, (.iaddr 79 2 (.t 77) (.t 78))⟩
def f40r11o3 : AI := ⟨none, (.load 80 2 true (.t 79))⟩
def f40r11o4 : AI := ⟨none, (.mov 81 (.t 8))⟩
def f40r11o5 : AI := ⟨none, (.mov 82 (.t 11))⟩
def f40r11o6 : AI := ⟨none, (.iaddr 83 1 (.t 81) (.t 82))⟩
def f40r11o7 : AI := ⟨none, (.load 84 1 false (.t 83))⟩
def f40r11o8 : AI := ⟨none, (.store 2 (.t 4) (.t 80))⟩
def f40r11o9 : AI := ⟨none, (.mov 5 (.t 84))⟩
def f40r11 : List AI := [f40r11o0, f40r11o1, f40r11o2, f40r11o3, f40r11o4, f40r11o5, f40r11o6, f40r11o7, f40r11o8, f40r11o9]
theorem utf40r11 : treeOf f40r11 [[], [], [0, 1], [2], [], [], [4, 5], [6], [3, 0, 1, 2, 3], [7, 8, 0, 1, 2, 3, 4, 5, 6, 7, 8]] = (.one f40r11o0 (.one f40r11o1 (.one f40r11o2 (.one f40r11o3 (.alt (.one f40r11o4 (.alt (.one f40r11o5 (.alt (.one f40r11o6 (.alt (.one f40r11o7 (.one f40r11o8 (.one f40r11o9 .done))) (.alt (.one f40r11o8 (.one f40r11o7 (.one f40r11o9 .done))) .top))) (.alt (.one f40r11o8 (.one f40r11o6 (.one f40r11o7 (.one f40r11o9 .done)))) .top))) (.alt (.one f40r11o8 (.one f40r11o5 (.one f40r11o6 (.one f40r11o7 (.one f40r11o9 .done))))) .top))) (.alt (.one f40r11o5 (.alt (.one f40r11o4 (.alt (.one f40r11o6 (.alt (.one f40r11o7 (.one f40r11o8 (.one f40r11o9 .done))) (.alt (.one f40r11o8 (.one f40r11o7 (.one f40r11o9 .done))) .top))) (.alt (.one f40r11o8 (.one f40r11o6 (.one f40r11o7 (.one f40r11o9 .done)))) .top))) (.alt (.one f40r11o8 (.one f40r11o4 (.one f40r11o6 (.one f40r11o7 (.one f40r11o9 .done))))) .top))) (.alt (.one f40r11o8 (.one f40r11o4 (.one f40r11o5 (.one f40r11o6 (.one f40r11o7 (.one f40r11o9 .done)))))) .top))))))) := by kernel_rfl
def f40b12 : AQ := (.seq (.tree f40r11 [[], [], [0, 1], [2], [], [], [4, 5], [6], [3, 0, 1, 2, 3], [7, 8, 0, 1, 2, 3, 4, 5, 6, 7, 8]]) (.keep [4, 5] [4, 5, 26, 33, 37, 41, 57, 88, 94, 27000, 27001, 27002, 58000, 58001, 58002, 89000, 89001, 89002, 95000, 95001, 95002] .ret))
def f40r13 : List AI := [⟨none, (.mov 72 (.t 7))⟩, ⟨none, (.iaddr 73 2 (.t 72) (.v (.k (.c (.int .i64 0)))))⟩, ⟨none, (.faddr 74 1 (.t 73))⟩, ⟨none, (.load 75 1 false (.t 74))⟩, ⟨none, (.bin 76 .sub (.v (.k (.c (.int .i64 2)))) (.t 75))⟩, ⟨none, (.mov 11 (.t 76))⟩]
def f40b14 : AQ := (.seq (.region f40r13) f40b12)
def f40b15 : AQ := (.cond (.t 71) f40b14 .skip)
def f40r16 : List AI := [⟨none, (.faddr 63 0 (.t 3))⟩, ⟨none, (.load 64 1 false (.t 63))⟩, ⟨none, (.bin 65 .eql (.t 64) (.v (.k (.c (.int .i64 6)))))⟩, ⟨none, (.mov 66 (.t 65))⟩, ⟨(some (66, true)), (.mov 67 (.t 7))⟩, ⟨(some (66, true)), (.iaddr 68 2 (.t 67) (.v (.k (.c (.int .i64 0)))))⟩, ⟨(some (66, true)), (.faddr 69 0 (.t 68))⟩, ⟨(some (66, true)), (.load 70 1 false (.t 69))⟩, ⟨none, (.pick 71 (.t 66) (.t 70) (.v (.k (.c (.bool false)))))⟩]
def f40b17 : AQ := (.seq (.region f40r16) f40b15)
def f40b18 : AQ := (.seq f40b17 f40b10)
def f40r19 : List AI := [⟨none, (.bin 62 .add (.t 45) (.v (.k (.c (.int .i64 1)))))⟩, ⟨none, (.mov 45 (.t 62))⟩]
def f40r20 : List AI := [⟨none, (.mov 51 (.t 7))⟩, ⟨none, (.mov 52 (.t 9))⟩, ⟨none, (.mov 53 (.t 8))⟩, ⟨none, (.mov 54 (.t 9))⟩, ⟨none, (.load 55 1 true (.t 2))⟩, ⟨none, (.load 56 3 true (.t 10))⟩, ⟨none, (.call (some 57) 40 [(.t 55), (.t 56)])⟩, ⟨none, (.mov 50 (.t 57))⟩, ⟨none, (.extr 58 (.t 50) 0)⟩, ⟨none, (.extr 59 (.t 50) 1)⟩, ⟨none, (.iaddr 60 2 (.t 51) (.t 52))⟩, ⟨none, (.store 2 (.t 60) (.t 58))⟩, ⟨none, (.iaddr 61 1 (.t 53) (.t 54))⟩, ⟨none, (.store 1 (.t 61) (.t 59))⟩]
def f40r21 : List AI := [⟨none, (.mov 47 (.t 45))⟩, ⟨none, (.iaddr 48 3 (.t 43) (.t 45))⟩, ⟨none, (.load 49 3 true (.t 48))⟩, ⟨none, (.alloc 10 50 [(.int .i64 0), (.int .i64 0), (.list 0 (some true) [])])⟩, ⟨none, (.mov 9 (.t 47))⟩, ⟨none, (.store 3 (.t 10) (.t 49))⟩]
def f40b22 : AQ := (.seq (.region f40r21) (.region f40r20))
def f40b23 : AQ := (.block 2 f40b22)
def f40b24 : AQ := (.seq f40b23 (.region f40r19))
def f40b25 : AQ := (.cond (.t 46) .skip (.exit 1))
def f40b26 : AQ := (.seq f40b25 f40b24)
def f40r27 : List AI := [⟨none, (.bin 46 .lss (.t 45) (.t 44))⟩]
def f40b28 : AQ := (.seq (.region f40r27) f40b26)
def f40l29 : AQ := .loop [2, 3, 4, 7, 8, 43, 44, 45] [2, 3, 4, 26, 37, 41, 57, 88, 27000, 27001, 27002, 58000, 58001, 58002, 89000, 89001, 89002] f40b28
theorem uf40l29 (P ts os Q) : awl P f40l29 Q ts os = awl P (.loop [2, 3, 4, 7, 8, 43, 44, 45] [2, 3, 4, 26, 37, 41, 57, 88, 27000, 27001, 27002, 58000, 58001, 58002, 89000, 89001, 89002] f40b28) Q ts os := id rfl
def f40b30 : AQ := (.block 1 f40l29)
def f40r31 : List AI := [⟨none, (.faddr 42 2 (.t 3))⟩, ⟨none, (.load 43 1 false (.t 42))⟩, ⟨none, (.len 44 (.t 43))⟩, ⟨none, (.mov 45 (.v (.k (.c (.int .i64 0)))))⟩]
def f40b32 : AQ := (.seq (.region f40r31) f40b30)
def f40b33 : AQ := (.seq f40b32 (.frz 41 (.frz 37 f40b18)))
def f40r34 : List AI := [⟨none, (.faddr 38 2 (.t 3))⟩, ⟨none, (.load 39 1 false (.t 38))⟩, ⟨none, (.len 40 (.t 39))⟩, ⟨none, (.mkslice 41 41 1 24 [(.list 0 (some true) [])] (.t 40) (.t 40))⟩, ⟨none, (.mov 8 (.t 41))⟩]
def f40b35 : AQ := (.seq (.region f40r34) f40b33)
def f40r36 : List AI := [⟨none, (.faddr 34 2 (.t 3))⟩, ⟨none, (.load 35 1 false (.t 34))⟩, ⟨none, (.len 36 (.t 35))⟩, ⟨none, (.mkslice 37 30 2 16 [(.bool false), (.int .i64 0)] (.t 36) (.t 36))⟩, ⟨none, (.mov 7 (.t 37))⟩]
def f40b37 : AQ := (.seq (.region f40r36) f40b35)
def f40r38 : List AI := [⟨none, (.faddr 18 1 (.t 3))⟩, ⟨none, (.load 19 1 false (.t 18))⟩, ⟨none, (.build 20 [(.bool false), (.int .i64 0)] [(0, (1, (.v (.k (.c (.bool true)))))), (1, (1, (.t 19)))])⟩, ⟨none, (.store 2 (.t 4) (.t 20))⟩, ⟨none, (.nilL 5 3 1)⟩]
def f40b39 : AQ := (.seq (.region f40r38) .ret)
def f40r40o0 : AI := ⟨none, (.build 30 [(.bool false), (.int .i64 0)] [])⟩
def f40r40o1 : AI := ⟨none, (.faddr 31 1 (.t 3))⟩
def f40r40o2 : AI := ⟨none, (.load 32 1 false (.t 31))⟩
def f40r40o3 : AI := ⟨none, (.bslice 33 3 1 [(.int .i64 0)] 1 [(0, (.t 32))])⟩
def f40r40o4 : AI := ⟨none, (.store 2 (.t 4) (.t 30))⟩
def f40r40o5 : AI := ⟨none, (.mov 5 (.t 33))⟩
def f40r40 : List AI := [f40r40o0, f40r40o1, f40r40o2, f40r40o3, f40r40o4, f40r40o5]
theorem utf40r40 : treeOf f40r40 [[], [], [1], [2], [0, 0], [3, 4, 0, 1, 2, 3, 4]] = (.one f40r40o0 (.alt (.one f40r40o1 (.alt (.one f40r40o2 (.alt (.one f40r40o3 (.one f40r40o4 (.one f40r40o5 .done))) (.alt (.one f40r40o4 (.one f40r40o3 (.one f40r40o5 .done))) .top))) (.alt (.one f40r40o4 (.one f40r40o2 (.one f40r40o3 (.one f40r40o5 .done)))) .top))) (.alt (.one f40r40o4 (.one f40r40o1 (.one f40r40o2 (.one f40r40o3 (.one f40r40o5 .done))))) .top))) := by kernel_rfl
def f40b41 : AQ := (.seq (.tree f40r40 [[], [], [1], [2], [0, 0], [3, 4, 0, 1, 2, 3, 4]]) (.keep [4, 5] [4, 5, 26, 33, 37, 41, 57, 88, 94, 27000, 27001, 27002, 58000, 58001, 58002, 89000, 89001, 89002, 95000, 95001, 95002] .ret))
def f40r42 : List AI := [⟨none, (.load 29 2 true (.t 6))⟩, ⟨none, (.store 2 (.t 4) (.t 29))⟩, ⟨none, (.nilL 5 3 1)⟩]
def f40b43 : AQ := (.seq (.region f40r42) .ret)
def f40b44 : AQ := (.cond (.t 28) f40b43 .skip)
def f40r45 : List AI := [⟨none, (.faddr 27 0 (.t 6))⟩, ⟨none, (.load 28 1 false (.t 27))⟩]
def f40b46 : AQ := (.seq (.region f40r45) f40b44)
def f40r47 : List AI := [⟨none, (.load 23 1 true (.t 2))⟩, ⟨none, (.faddr 24 1 (.t 3))⟩, ⟨none, (.load 25 1 false (.t 24))⟩, ⟨none, (.call (some 26) 52 [(.t 23), (.t 25)])⟩, ⟨none, (.alloc 6 30 [(.bool false), (.int .i64 0)])⟩, ⟨none, (.store 2 (.t 6) (.t 26))⟩]
def f40b48 : AQ := (.seq (.region f40r47) f40b46)
def f40b49 : AQ := (.seq f40b48 f40b41)
def f40b50 : AQ := (.cond (.t 21) f40b49 .skip)
def f40r51 : List AI := [⟨none, (.bin 22 .eql (.t 14) (.v (.k (.c (.int .i64 2)))))⟩, ⟨none, (.mov 21 (.t 22))⟩]
def f40b52 : AQ := (.seq (.region f40r51) f40b50)
def f40b53 : AQ := (.cond (.t 15) f40b39 f40b52)
def f40r54 : List AI := [⟨none, (.bin 17 .eql (.t 14) (.v (.k (.c (.int .i64 1)))))⟩, ⟨none, (.mov 15 (.t 17))⟩]
def f40b55 : AQ := (.cond (.t 15) .skip (.region f40r54))
def f40r56 : List AI := [⟨none, (.bin 16 .eql (.t 14) (.v (.k (.c (.int .i64 0)))))⟩, ⟨none, (.mov 15 (.t 16))⟩]
def f40b57 : AQ := (.seq (.region f40r56) f40b55)
def f40b58 : AQ := (.seq f40b57 f40b53)
def f40b59 : AQ := (.block 0 f40b58)
def f40r60 : List AI := [⟨none, (.faddr 13 0 (.t 3))⟩, ⟨none, (.load 14 1 false (.t 13))⟩]
def f40b61 : AQ := (.seq (.region f40r60) f40b59)
def f40b62 : AQ := (.seq f40b61 f40b37)
def f40r63 : List AI := [⟨none, (.box 2 73 (.t 0))⟩, ⟨none, (.box 3 50 (.t 1))⟩, ⟨none, (.alloc 4 30 [(.bool false), (.int .i64 0)])⟩, ⟨none, (.nilL 5 3 1)⟩]
def f40b64 : AQ := (.seq (.region f40r63) f40b62)
def f40 : AQ := f40b64
theorem hf40 : cFunc Tryd.prog 40 = some ⟨95, f40.erase, [(RX.cell 4 2 true), (RX.t 5)]⟩ := by kernel_rfl
theorem okf40 : f40.ok = true := by kernel_rfl
def f41r1 : List AI := [⟨none, (.load 7 3 true (.t 1))⟩, ⟨none, (.call (some 8) 55 [(.t 7)])⟩, ⟨none, (.extr 9 (.t 8) 0)⟩, ⟨none, (.extr 10 (.t 8) 1)⟩, ⟨none, (.mov 2 (.t 9))⟩, ⟨none, (.mov 3 (.t 10))⟩]
def f41b2 : AQ := (.seq (.region f41r1) .ret)
def f41r3 : List AI := [⟨none, (.mov 2 (.v (.k (.c (.int .i64 0)))))⟩, ⟨none, (.mov 3 (.v (.k (.c (.int .i64 6)))))⟩]
def f41b4 : AQ := (.seq (.region f41r3) .ret)
def f41b5 : AQ := (.cond (.t 6) f41b4 .skip)
def f41r6 : List AI := [⟨none, (.load 4 3 true (.t 1))⟩, ⟨none, (.call (some 5) 36 [(.t 4), (.v (.k (.c (.int .i64 60)))), (.v (.k (.c (.int .i64 8))))])⟩, ⟨none, (.bin 6 .lss (.t 5) (.v (.k (.c (.int .i64 0)))))⟩]
def f41b7 : AQ := (.seq (.region f41r6) f41b5)
def f41b8 : AQ := (.seq f41b7 f41b2)
def f41r9 : List AI := [⟨none, (.box 1 50 (.t 0))⟩, ⟨none, (.mov 2 (.v (.k (.c (.int .i64 0)))))⟩, ⟨none, (.mov 3 (.v (.k (.c (.int .i64 0)))))⟩]
def f41b10 : AQ := (.seq (.region f41r9) f41b8)
def f41 : AQ := f41b10
theorem hf41 : cFunc Tryd.prog 41 = some ⟨11, f41.erase, [(RX.t 2), (RX.t 3)]⟩ := by kernel_rfl
theorem okf41 : f41.ok = true := by kernel_rfl
def f42r1 : List AI := [⟨none, (.faddr 125 0 (.t 2))⟩, ⟨none, (.load 126 1 false (.t 125))⟩, ⟨none, (.mov 127 (.t 5))⟩, ⟨none, (.iaddr 128 2 (.t 127) (.v (.k (.c (.int .i64 0)))))⟩, ⟨none, (.faddr 129 1 (.t 128))⟩, ⟨none, (.load 130 1 false (.t 129))⟩, ⟨none, (.mov 131 (.t 5))⟩, ⟨none, (.iaddr 132 2 (.t 131) (.v (.k (.c (.int .i64 1)))))⟩, ⟨none, (.faddr 133 1 (.t 132))⟩, ⟨none, (.load 134 1 false (.t 133))⟩, ⟨none, (.call (some 135) 58 [(.t 126), (.t 130), (.t 134)])⟩, ⟨none, (.store 2 (.t 4) (.t 135))⟩]
def f42b2 : AQ := (.seq (.draw f42r1 [[], [0], [], [2], [3], [4], [], [6], [7], [8], [1, 5, 9], [10, 10, 0, 1, 2, 3, 4, 5, 6, 7, 8, 9, 10]]) .ret)
def f42r3 : List AI := [⟨none, (.build 124 [(.bool false), (.int .i64 0)] [])⟩, ⟨none, (.store 2 (.t 4) (.t 124))⟩]
def f42b4 : AQ := (.seq (.region f42r3) .ret)
def f42b5 : AQ := (.cond (.t 123) f42b4 .skip)
def f42r6 : List AI := [⟨none, (.mov 112 (.t 5))⟩, ⟨none, (.iaddr 113 2 (.t 112) (.v (.k (.c (.int .i64 0)))))⟩, ⟨none, (.faddr 114 0 (.t 113))⟩, ⟨none, (.load 115 1 false (.t 114))⟩, ⟨none, (.un 116 .not (.t 115))⟩, ⟨none, (.mov 117 (.t 116))⟩, ⟨(some (117, false)), (.mov 118 (.t 5))⟩, ⟨(some (117, false)), (.iaddr 119 2 (.t 118) (.v (.k (.c (.int .i64 1)))))⟩, ⟨(some (117, false)), (.faddr 120 0 (.t 119))⟩, ⟨(some (117, false)), (.load 121 1 false (.t 120))⟩, ⟨(some (117, false)), (.un 122 .not (.t 121))⟩, ⟨none, (.pick 123 (.t 117) (.v (.k (.c (.bool true)))) (.t 122))⟩]
def f42b7 : AQ := (.seq (.region f42r6) f42b5)
def f42b8 : AQ := (.seq f42b7 f42b2)
def f42r9 : List AI := [⟨none, (.mov 49 (.t 5))⟩, ⟨none, (.iaddr 50 2 (.t 49) (.v (.k (.c (.int .i64 0)))))⟩, ⟨none, (.faddr 51 1 (.t 50))⟩, ⟨none, (.load 52 1 false (.t 51))⟩, ⟨none, (.bin 53 .sub (.v (.k (.c (.int .i64 1)))) (.t 52))⟩, ⟨none, (.build 54 [(.bool false), (.int .i64 0)] [(0, (1, (.v (.k (.c (.bool true)))))), (1, (1, (.t 53)))])⟩, ⟨none, (.store 2 (.t 4) (.t 54))⟩]
def f42b10 : AQ := (.seq (.region f42r9) .ret)
def f42r11 : List AI := [⟨none, (.build 48 [(.bool false), (.int .i64 0)] [])⟩, ⟨none, (.store 2 (.t 4) (.t 48))⟩]
def f42b12 : AQ := (.seq (.region f42r11) .ret)
def f42b13 : AQ := (.cond (.t 47) f42b12 .skip)
def f42r14 : List AI := [⟨none, (.mov 43 (.t 5))⟩, ⟨none, (.iaddr 44 2 (.t 43) (.v (.k (.c (.int .i64 0)))))⟩, ⟨none, (.faddr 45 0 (.t 44))⟩, ⟨none, (.load 46 1 false (.t 45))⟩, ⟨none, (.un 47 .not (.t 46))⟩]
def f42b15 : AQ := (.seq (.region f42r14) f42b13)
def f42b16 : AQ := (.seq f42b15 f42b10)
def f42r17 : List AI := [⟨none, (.mov 57 (.t 5))⟩, ⟨none, (.iaddr 58 2 (.t 57) (.v (.k (.c (.int .i64 0)))))⟩, ⟨none, (.load 59 2 true (.t 58))⟩, ⟨none, (.mov 60 (.t 5))⟩, ⟨none, (.iaddr 61 2 (.t 60) (.v (.k (.c (.int .i64 1)))))⟩, ⟨none, (.load 62 2 true (.t 61))⟩, ⟨none, (.call (some 63) 57 [(.t 59), (.t 62), (.v (.k (.c (.int .i64 0))))])⟩, ⟨none, (.store 2 (.t 4) (.t 63))⟩]
def f42b18 : AQ := (.seq (.draw f42r17 [[], [0], [1], [], [3], [4], [2, 5], [6, 6, 0, 1, 2, 3, 4, 5, 6]]) .ret)
def f42r19 : List AI := [⟨none, (.mov 66 (.t 5))⟩, ⟨none, (.iaddr 67 2 (.t 66) (.v (.k (.c (.int .i64 0)))))⟩, ⟨none, (.load 68 2 true (.t 67))⟩, ⟨none, (.mov 69 (.t 5))⟩, ⟨none, (.iaddr 70 2 (.t 69) (.v (.k (.c (.int .i64 1)))))⟩, ⟨none, (.load 71 2 true (.t 70))⟩, ⟨none, (.call (some 72) 57 [(.t 68), (.t 71), (.v (.k (.c (.int .i64 1))))])⟩, ⟨none, (.store 2 (.t 4) (.t 72))⟩]
def f42b20 : AQ := (.seq (.draw f42r19 [[], [0], [1], [], [3], [4], [2, 5], [6, 6, 0, 1, 2, 3, 4, 5, 6]]) .ret)
def f42r21 : List AI := [⟨none, (.build 111 [(.bool false), (.int .i64 0)] [])⟩, ⟨none, (.store 2 (.t 4) (.t 111))⟩]
def f42b22 : AQ := (.seq (.region f42r21) .ret)
def f42r23 : List AI := [⟨none, (.mov 108 (.t 5))⟩, ⟨none, (.iaddr 109 2 (.t 108) (.v (.k (.c (.int .i64 1)))))⟩, ⟨none, (.load 110 2 true (.t 109))⟩, ⟨none, (.store 2 (.t 4) (.t 110))⟩]
def f42b24 : AQ := (.seq (.region f42r23) .ret)
def f42b25 : AQ := (.cond (.t 107) f42b24 .skip)
def f42r26 : List AI := [⟨none, (.mov 87 (.t 5))⟩, ⟨none, (.iaddr 88 2 (.t 87) (.v (.k (.c (.int .i64 1)))))⟩, ⟨none, (.faddr 89 0 (.t 88))⟩, ⟨none, (.load 90 1 false (.t 89))⟩, ⟨none, (.mov 91 (.t 90))⟩, ⟨(some (91, true)), (.mov 92 (.t 5))⟩, ⟨(some (91, true)), (.iaddr 93 2 (.t 92) (.v (.k (.c (.int .i64 2)))))⟩, ⟨(some (91, true)), (.faddr 94 0 (.t 93))⟩, ⟨(some (91, true)), (.load 95 1 false (.t 94))⟩, ⟨none, (.pick 96 (.t 91) (.t 95) (.v (.k (.c (.bool false)))))⟩, ⟨none, (.mov 97 (.t 96))⟩, ⟨(some (97, true)), (.mov 98 (.t 5))⟩, ⟨(some (97, true)), (.iaddr 99 2 (.t 98) (.v (.k (.c (.int .i64 1)))))⟩, ⟨(some (97, true)), (.faddr 100 1 (.t 99))⟩, ⟨(some (97, true)), (.load 101 1 false (.t 100))⟩, ⟨(some (97, true)), (.mov 102 (.t 5))⟩, ⟨(some (97, true)), (.iaddr 103 2 (.t 102) (.v (.k (.c (.int .i64 2)))))⟩, ⟨(some (97, true)), (.faddr 104 1 (.t 103))⟩, ⟨(some (97, true)), (.load 105 1 false (.t 104))⟩, ⟨(some (97, true)), (.bin 106 .eql (.t 101) (.t 105))⟩, ⟨none, (.pick 107 (.t 97) (.t 106) (.v (.k (.c (.bool false)))))⟩]
def f42b27 : AQ := (.seq (.draw f42r26 [[], [0], [1], [2], [3], [4], [5, 4], [6, 4], [7, 4], [4, 8], [9, 4], [10], [11, 10], [12, 10], [13, 10], [10], [15, 10], [16, 10], [17, 10], [14, 18, 10], [10, 19]]) f42b25)
def f42b28 : AQ := (.seq f42b27 f42b22)
def f42r29 : List AI := [⟨none, (.mov 79 (.t 5))⟩, ⟨none, (.mov 80 (.t 5))⟩, ⟨none, (.iaddr 81 2 (.t 80) (.v (.k (.c (.int .i64 0)))))⟩, ⟨none, (.faddr 82 1 (.t 81))⟩, ⟨none, (.load 83 1 false (.t 82))⟩, ⟨none, (.bin 84 .sub (.v (.k (.c (.int .i64 2)))) (.t 83))⟩, ⟨none, (.iaddr 85 2 (.t 79) (.t 84))⟩, ⟨none, (.load 86 2 true (.t 85))⟩, ⟨none, (.store 2 (.t 4) (.t 86))⟩]
def f42b30 : AQ := (.seq (.region f42r29) .ret)
def f42b31 : AQ := (.cond (.t 78) f42b30 .skip)
def f42r32 : List AI := [⟨none, (.mov 75 (.t 5))⟩, ⟨none, (.iaddr 76 2 (.t 75) (.v (.k (.c (.int .i64 0)))))⟩, ⟨none, (.faddr 77 0 (.t 76))⟩, ⟨none, (.load 78 1 false (.t 77))⟩]
def f42b33 : AQ := (.seq (.region f42r32) f42b31)
def f42b34 : AQ := (.seq f42b33 f42b28)
def f42b35 : AQ := (.cond (.t 73) f42b34 .skip)
def f42r36 : List AI := [⟨none, (.bin 74 .eql (.t 40) (.v (.k (.c (.int .i64 6)))))⟩, ⟨none, (.mov 73 (.t 74))⟩]
def f42b37 : AQ := (.seq (.region f42r36) f42b35)
def f42b38 : AQ := (.cond (.t 64) f42b20 f42b37)
def f42r39 : List AI := [⟨none, (.bin 65 .eql (.t 40) (.v (.k (.c (.int .i64 5)))))⟩, ⟨none, (.mov 64 (.t 65))⟩]
def f42b40 : AQ := (.seq (.region f42r39) f42b38)
def f42b41 : AQ := (.cond (.t 55) f42b18 f42b40)
def f42r42 : List AI := [⟨none, (.bin 56 .eql (.t 40) (.v (.k (.c (.int .i64 4)))))⟩, ⟨none, (.mov 55 (.t 56))⟩]
def f42b43 : AQ := (.seq (.region f42r42) f42b41)
def f42b44 : AQ := (.cond (.t 41) f42b16 f42b43)
def f42r45 : List AI := [⟨none, (.bin 42 .eql (.t 40) (.v (.k (.c (.int .i64 3)))))⟩, ⟨none, (.mov 41 (.t 42))⟩]
def f42b46 : AQ := (.seq (.region f42r45) f42b44)
def f42b47 : AQ := (.block 3 f42b46)
def f42r48 : List AI := [⟨none, (.faddr 39 0 (.t 2))⟩, ⟨none, (.load 40 1 false (.t 39))⟩]
def f42b49 : AQ := (.seq (.region f42r48) f42b47)
def f42b50 : AQ := (.seq f42b49 f42b8)
def f42r51 : List AI := [⟨none, (.mov 27 (.t 6))⟩, ⟨none, (.bin 28 .add (.t 27) (.v (.k (.c (.int .i64 1)))))⟩, ⟨none, (.mov 6 (.t 28))⟩]
def f42r52 : List AI := [⟨none, (.mov 29 (.t 5))⟩, ⟨none, (.faddr 30 2 (.t 2))⟩, ⟨none, (.load 31 1 false (.t 30))⟩, ⟨none, (.mov 32 (.t 6))⟩, ⟨none, (.iaddr 33 3 (.t 31) (.t 32))⟩, ⟨none, (.load 34 3 true (.t 33))⟩, ⟨none, (.mov 35 (.t 1))⟩, ⟨none, (.call (some 36) 42 [(.t 34), (.t 35)])⟩, ⟨none, (.bslice 37 30 2 [(.bool false), (.int .i64 0)] 1 [(0, (.t 36))])⟩, ⟨none, (.append 38 30 2 16 (.t 29) (.t 37))⟩, ⟨none, (.mov 5 (.t 38))⟩]
def f42b53 : AQ := (.block 2 (.region f42r52))
def f42b54 : AQ := (.seq f42b53 (.region f42r51))
def f42b55 : AQ := (.cond (.t 26) .skip (.exit 1))
def f42r56 : List AI := [⟨none, (.mov 22 (.t 6))⟩, ⟨none, (.faddr 23 2 (.t 2))⟩, ⟨none, (.load 24 1 false (.t 23))⟩, ⟨none, (.len 25 (.t 24))⟩, ⟨none, (.bin 26 .lss (.t 22) (.t 25))⟩]
def f42b57 : AQ := (.seq (.region f42r56) f42b55)
def f42b58 : AQ := (.seq f42b57 f42b54)
def f42l59 : AQ := .loop [1, 2, 4, 5, 6] [2, 4, 20, 21, 38, 63, 72, 135, 21000, 21001, 21002, 64000, 64001, 64002, 73000, 73001, 73002, 136000, 136001, 136002] f42b58
theorem uf42l59 (P ts os Q) : awl P f42l59 Q ts os = awl P (.loop [1, 2, 4, 5, 6] [2, 4, 20, 21, 38, 63, 72, 135, 21000, 21001, 21002, 64000, 64001, 64002, 73000, 73001, 73002, 136000, 136001, 136002] f42b58) Q ts os := id rfl
def f42b60 : AQ := (.block 1 f42l59)
def f42r61 : List AI := [⟨none, (.mov 6 (.v (.k (.c (.int .i64 0)))))⟩]
def f42b62 : AQ := (.seq (.region f42r61) f42b60)
def f42b63 : AQ := (.seq f42b62 f42b50)
def f42r64 : List AI := [⟨none, (.bslice 21 30 2 [(.bool false), (.int .i64 0)] 0 [])⟩, ⟨none, (.mov 5 (.t 21))⟩]
def f42b65 : AQ := (.seq (.region f42r64) f42b63)
def f42r66 : List AI := [⟨none, (.faddr 12 1 (.t 2))⟩, ⟨none, (.load 13 1 false (.t 12))⟩, ⟨none, (.build 14 [(.bool false), (.int .i64 0)] [(0, (1, (.v (.k (.c (.bool true)))))), (1, (1, (.t 13)))])⟩, ⟨none, (.store 2 (.t 4) (.t 14))⟩]
def f42b67 : AQ := (.seq (.region f42r66) .ret)
def f42r68 : List AI := [⟨none, (.faddr 17 1 (.t 2))⟩, ⟨none, (.load 18 1 false (.t 17))⟩, ⟨none, (.mov 19 (.t 1))⟩, ⟨none, (.call (some 20) 56 [(.t 18), (.t 19)])⟩, ⟨none, (.store 2 (.t 4) (.t 20))⟩]
def f42b69 : AQ := (.seq (.region f42r68) .ret)
def f42b70 : AQ := (.cond (.t 15) f42b69 .skip)
def f42r71 : List AI := [⟨none, (.bin 16 .eql (.t 8) (.v (.k (.c (.int .i64 2)))))⟩, ⟨none, (.mov 15 (.t 16))⟩]
def f42b72 : AQ := (.seq (.region f42r71) f42b70)
def f42b73 : AQ := (.cond (.t 9) f42b67 f42b72)
def f42r74 : List AI := [⟨none, (.bin 11 .eql (.t 8) (.v (.k (.c (.int .i64 1)))))⟩, ⟨none, (.mov 9 (.t 11))⟩]
def f42b75 : AQ := (.cond (.t 9) .skip (.region f42r74))
def f42r76 : List AI := [⟨none, (.bin 10 .eql (.t 8) (.v (.k (.c (.int .i64 0)))))⟩, ⟨none, (.mov 9 (.t 10))⟩]
def f42b77 : AQ := (.seq (.region f42r76) f42b75)
def f42b78 : AQ := (.seq f42b77 f42b73)
def f42b79 : AQ := (.block 0 f42b78)
def f42r80 : List AI := [⟨none, (.faddr 7 0 (.t 2))⟩, ⟨none, (.load 8 1 false (.t 7))⟩]
def f42b81 : AQ := (.seq (.region f42r80) f42b79)
def f42b82 : AQ := (.seq f42b81 f42b65)
def f42r83 : List AI := [⟨none, (.box 2 50 (.t 0))⟩, ⟨none, (.alloc 4 30 [(.bool false), (.int .i64 0)])⟩]
def f42b84 : AQ := (.seq (.region f42r83) f42b82)
def f42 : AQ := f42b84
theorem hf42 : cFunc Tryd.prog 42 = some ⟨136, f42.erase, [(RX.cell 4 2 true)]⟩ := by kernel_rfl
theorem okf42 : f42.ok = true := by kernel_rfl
def f43r1 : List AI := [⟨none, (.mov 7 (.t 1))⟩, ⟨none, (.mov 8 (.t 0))⟩, ⟨none, (.bin 9 .leq (.t 7) (.t 8))⟩, ⟨none, (.mov 10 (.t 9))⟩, ⟨(some (10, true)), (.mov 11 (.t 0))⟩, ⟨(some (10, true)), (.mov 12 (.t 2))⟩, ⟨(some (10, true)), (.bin 13 .leq (.t 11) (.t 12))⟩, ⟨none, (.pick 14 (.t 10) (.t 13) (.v (.k (.c (.bool false)))))⟩, ⟨none, (.mov 6 (.t 14))⟩]
def f43b2 : AQ := (.seq (.region f43r1) .ret)
def f43r3 : List AI := [⟨none, (.mov 6 (.v (.k (.c (.bool false)))))⟩]
def f43b4 : AQ := (.seq (.region f43r3) f43b2)
def f43 : AQ := f43b4
theorem hf43 : cFunc Tryd.prog 43 = some ⟨15, f43.erase, [(RX.t 6)]⟩ := by kernel_rfl
theorem okf43 : f43.ok = true := by kernel_rfl
def f47r1 : List AI := [⟨none, (.mov 6 (.v (.k (.c (.bool false)))))⟩]
def f47b2 : AQ := (.seq (.region f47r1) .ret)
def f47r3 : List AI := [⟨none, (.mov 49 (.t 9))⟩, ⟨none, (.bin 50 .add (.t 49) (.v (.k (.c (.int .i64 1)))))⟩, ⟨none, (.mov 9 (.t 50))⟩]
def f47r4 : List AI := [⟨none, (.mov 6 (.v (.k (.c (.bool true)))))⟩]
def f47b5 : AQ := (.seq (.region f47r4) .ret)
def f47b6 : AQ := (.cond (.t 59) f47b5 .skip)
def f47r7 : List AI := [⟨none, (.mov 59 (.t 10))⟩]
def f47b8 : AQ := (.seq (.region f47r7) f47b6)
def f47r9 : List AI := [⟨none, (.faddr 51 2 (.t 3))⟩, ⟨none, (.load 52 1 false (.t 51))⟩, ⟨none, (.mov 53 (.t 9))⟩, ⟨none, (.iaddr 54 3 (.t 52) (.t 53))⟩, ⟨none, (.load 55 3 true (.t 54))⟩, ⟨none, (.mov 56 (.t 1))⟩, ⟨none, (.mov 57 (.t 2))⟩, ⟨none, (.call (some 58) 47 [(.t 55), (.t 56), (.t 57)])⟩, ⟨none, (.mov 10 (.t 58))⟩]
def f47b10 : AQ := (.seq (.region f47r9) f47b8)
def f47b11 : AQ := (.block 1 f47b10)
def f47b12 : AQ := (.seq f47b11 (.region f47r3))
def f47b13 : AQ := (.cond (.t 48) .skip (.exit 0))
def f47r14 : List AI := [⟨none, (.mov 44 (.t 9))⟩, ⟨none, (.faddr 45 2 (.t 3))⟩, ⟨none, (.load 46 1 false (.t 45))⟩, ⟨none, (.len 47 (.t 46))⟩, ⟨none, (.bin 48 .lss (.t 44) (.t 47))⟩]
def f47b15 : AQ := (.seq (.region f47r14) f47b13)
def f47b16 : AQ := (.seq f47b15 f47b12)
def f47l17 : AQ := .loop [1, 2, 3, 9] [3] f47b16
theorem uf47l17 (P ts os Q) : awl P f47l17 Q ts os = awl P (.loop [1, 2, 3, 9] [3] f47b16) Q ts os := id rfl
def f47b18 : AQ := (.block 0 f47l17)
def f47r19 : List AI := [⟨none, (.mov 9 (.v (.k (.c (.int .i64 0)))))⟩]
def f47b20 : AQ := (.seq (.region f47r19) f47b18)
def f47b21 : AQ := (.seq f47b20 f47b2)
def f47r22 : List AI := [⟨none, (.faddr 34 2 (.t 3))⟩, ⟨none, (.load 35 1 false (.t 34))⟩, ⟨none, (.faddr 36 1 (.t 8))⟩, ⟨none, (.load 37 1 false (.t 36))⟩, ⟨none, (.bin 38 .sub (.v (.k (.c (.int .i64 2)))) (.t 37))⟩, ⟨none, (.iaddr 39 3 (.t 35) (.t 38))⟩, ⟨none, (.load 40 3 true (.t 39))⟩, ⟨none, (.mov 41 (.t 1))⟩, ⟨none, (.mov 42 (.t 2))⟩, ⟨none, (.call (some 43) 47 [(.t 40), (.t 41), (.t 42)])⟩, ⟨none, (.mov 6 (.t 43))⟩]
def f47b23 : AQ := (.seq (.region f47r22) .ret)
def f47b24 : AQ := (.cond (.t 33) f47b23 .skip)
def f47r25 : List AI := [⟨none, (.faddr 32 0 (.t 8))⟩, ⟨none, (.load 33 1 false (.t 32))⟩]
def f47b26 : AQ := (.seq (.region f47r25) f47b24)
def f47r27 : List AI := [⟨none, (.faddr 26 2 (.t 3))⟩, ⟨none, (.load 27 1 false (.t 26))⟩, ⟨none, (.iaddr 28 3 (.t 27) (.v (.k (.c (.int .i64 0)))))⟩, ⟨none, (.load 29 3 true (.t 28))⟩, ⟨none, (.mov 30 (.t 1))⟩, ⟨none, (.call (some 31) 42 [(.t 29), (.t 30)])⟩, ⟨none, (.alloc 8 30 [(.bool false), (.int .i64 0)])⟩, ⟨none, (.store 2 (.t 8) (.t 31))⟩]
def f47b28 : AQ := (.seq (.region f47r27) f47b26)
def f47b29 : AQ := (.cond (.t 25) f47b28 .skip)
def f47r30 : List AI := [⟨none, (.faddr 23 0 (.t 3))⟩, ⟨none, (.load 24 1 false (.t 23))⟩, ⟨none, (.bin 25 .eql (.t 24) (.v (.k (.c (.int .i64 6)))))⟩]
def f47b31 : AQ := (.seq (.region f47r30) f47b29)
def f47b32 : AQ := (.seq f47b31 f47b21)
def f47r33 : List AI := [⟨none, (.faddr 19 1 (.t 3))⟩, ⟨none, (.load 20 1 false (.t 19))⟩, ⟨none, (.mov 21 (.t 2))⟩, ⟨none, (.bin 22 .eql (.t 20) (.t 21))⟩, ⟨none, (.mov 6 (.t 22))⟩]
def f47b34 : AQ := (.seq (.region f47r33) .ret)
def f47b35 : AQ := (.cond (.t 18) f47b34 .skip)
def f47r36 : List AI := [⟨none, (.faddr 16 0 (.t 3))⟩, ⟨none, (.load 17 1 false (.t 16))⟩, ⟨none, (.bin 18 .eql (.t 17) (.v (.k (.c (.int .i64 2)))))⟩]
def f47b37 : AQ := (.seq (.region f47r36) f47b35)
def f47b38 : AQ := (.seq f47b37 f47b32)
def f47r39 : List AI := [⟨none, (.mov 6 (.v (.k (.c (.bool false)))))⟩]
def f47b40 : AQ := (.seq (.region f47r39) .ret)
def f47b41 : AQ := (.cond (.t 15) f47b40 .skip)
def f47r42 : List AI := [⟨none, (.faddr 14 0 (.t 7))⟩, ⟨none, (.load 15 1 false (.t 14))⟩]
def f47b43 : AQ := (.seq (.region f47r42) f47b41)
def f47b44 : AQ := (.seq f47b43 f47b38)
def f47r45 : List AI := [⟨none, (.load 11 3 true (.t 3))⟩, ⟨none, (.mov 12 (.t 1))⟩, ⟨none, (.call (some 13) 42 [(.t 11), (.t 12)])⟩, ⟨none, (.alloc 7 30 [(.bool false), (.int .i64 0)])⟩, ⟨none, (.store 2 (.t 7) (.t 13))⟩]
def f47b46 : AQ := (.seq (.region f47r45) f47b44)
def f47r47 : List AI := [⟨none, (.box 3 50 (.t 0))⟩, ⟨none, (.mov 6 (.v (.k (.c (.bool false)))))⟩]
def f47b48 : AQ := (.seq (.region f47r47) f47b46)
def f47 : AQ := f47b48
theorem hf47 : cFunc Tryd.prog 47 = some ⟨60, f47.erase, [(RX.t 6)]⟩ := by kernel_rfl
theorem okf47 : f47.ok = true := by kernel_rfl
def f48r1 : List AI := [⟨none, (.bin 24 .add (.t 17) (.v (.k (.c (.int .i64 1)))))⟩, ⟨none, (.mov 17 (.t 24))⟩]
def f48r2 : List AI := [⟨none, (.load 21 1 false (.t 2))⟩, ⟨none, (.load 22 3 true (.t 5))⟩, ⟨none, (.callv (some 23) (.t 21) [(.t 22)])⟩]
def f48r3 : List AI := [⟨none, (.iaddr 19 3 (.t 15) (.t 17))⟩, ⟨none, (.load 20 3 true (.t 19))⟩, ⟨none, (.alloc 5 50 [(.int .i64 0), (.int .i64 0), (.list 0 (some true) [])])⟩, ⟨none, (.store 3 (.t 5) (.t 20))⟩]
def f48b4 : AQ := (.seq (.region f48r3) (.region f48r2))
def f48b5 : AQ := (.block 1 f48b4)
def f48b6 : AQ := (.seq f48b5 (.region f48r1))
def f48b7 : AQ := (.cond (.t 18) .skip (.exit 0))
def f48b8 : AQ := (.seq f48b7 f48b6)
def f48r9 : List AI := [⟨none, (.bin 18 .lss (.t 17) (.t 16))⟩]
def f48b10 : AQ := (.seq (.region f48r9) f48b8)
def f48l11 : AQ := .loop [1, 2, 15, 16, 17] [1000, 1005, 1006] f48b10
theorem uf48l11 (P ts os Q) : awl P f48l11 Q ts os = awl P (.loop [1, 2, 15, 16, 17] [1000, 1005, 1006] f48b10) Q ts os := id rfl
def f48b12 : AQ := (.block 0 f48l11)
def f48r13 : List AI := [⟨none, (.faddr 14 2 (.t 3))⟩, ⟨none, (.load 15 1 false (.t 14))⟩, ⟨none, (.len 16 (.t 15))⟩, ⟨none, (.mov 17 (.v (.k (.c (.int .i64 0)))))⟩]
def f48b14 : AQ := (.seq (.region f48r13) f48b12)
def f48r15 : List AI := [⟨none, (.load 9 1 false (.t 1))⟩, ⟨none, (.faddr 10 1 (.t 3))⟩, ⟨none, (.load 11 1 false (.t 10))⟩, ⟨none, (.bslice 12 3 1 [(.int .i64 0)] 1 [(0, (.t 11))])⟩, ⟨none, (.append 13 3 1 8 (.t 9) (.t 12))⟩, ⟨none, (.store 1 (.t 1) (.t 13))⟩]
def f48b16 : AQ := (.cond (.t 8) (.region f48r15) .skip)
def f48r17 : List AI := [⟨none, (.faddr 6 0 (.t 3))⟩, ⟨none, (.load 7 1 false (.t 6))⟩, ⟨none, (.bin 8 .eql (.t 7) (.v (.k (.c (.int .i64 2)))))⟩]
def f48b18 : AQ := (.seq (.region f48r17) f48b16)
def f48b19 : AQ := (.seq f48b18 f48b14)
def f48r20 : List AI := [⟨none, (.box 3 50 (.t 0))⟩]
def f48b21 : AQ := (.seq (.region f48r20) f48b19)
def f48 : AQ := f48b21
theorem hf48 : cFunc Tryd.prog 48 = some ⟨25, f48.erase, []⟩ := by kernel_rfl
theorem okf48 : f48.ok = true := by kernel_rfl
def f49r1 : List AI := [⟨none, (.mov 4 (.v (.k (.c (.bool false)))))⟩]
def f49b2 : AQ := (.seq (.region f49r1) .ret)
def f49r3 : List AI := [⟨none, (.mov 19 (.t 5))⟩, ⟨none, (.bin 20 .add (.t 19) (.v (.k (.c (.int .i64 1)))))⟩, ⟨none, (.mov 5 (.t 20))⟩]
def f49r4 : List AI := [⟨none, (.mov 4 (.v (.k (.c (.bool true)))))⟩]
def f49b5 : AQ := (.seq (.region f49r4) .ret)
def f49b6 : AQ := (.cond (.t 28) f49b5 .skip)
def f49r7 : List AI := [⟨none, (.mov 28 (.t 6))⟩]
def f49b8 : AQ := (.seq (.region f49r7) f49b6)
def f49r9 : List AI := [⟨none, (.faddr 21 2 (.t 2))⟩, ⟨none, (.load 22 1 false (.t 21))⟩, ⟨none, (.mov 23 (.t 5))⟩, ⟨none, (.iaddr 24 3 (.t 22) (.t 23))⟩, ⟨none, (.load 25 3 true (.t 24))⟩, ⟨none, (.mov 26 (.t 1))⟩, ⟨none, (.call (some 27) 49 [(.t 25), (.t 26)])⟩, ⟨none, (.mov 6 (.t 27))⟩]
def f49b10 : AQ := (.seq (.region f49r9) f49b8)
def f49b11 : AQ := (.block 1 f49b10)
def f49b12 : AQ := (.seq f49b11 (.region f49r3))
def f49b13 : AQ := (.cond (.t 18) .skip (.exit 0))
def f49r14 : List AI := [⟨none, (.mov 14 (.t 5))⟩, ⟨none, (.faddr 15 2 (.t 2))⟩, ⟨none, (.load 16 1 false (.t 15))⟩, ⟨none, (.len 17 (.t 16))⟩, ⟨none, (.bin 18 .lss (.t 14) (.t 17))⟩]
def f49b15 : AQ := (.seq (.region f49r14) f49b13)
def f49b16 : AQ := (.seq f49b15 f49b12)
def f49l17 : AQ := .loop [1, 2, 5] [2] f49b16
theorem uf49l17 (P ts os Q) : awl P f49l17 Q ts os = awl P (.loop [1, 2, 5] [2] f49b16) Q ts os := id rfl
def f49b18 : AQ := (.block 0 f49l17)
def f49r19 : List AI := [⟨none, (.mov 5 (.v (.k (.c (.int .i64 0)))))⟩]
def f49b20 : AQ := (.seq (.region f49r19) f49b18)
def f49b21 : AQ := (.seq f49b20 f49b2)
def f49r22 : List AI := [⟨none, (.faddr 10 1 (.t 2))⟩, ⟨none, (.load 11 1 false (.t 10))⟩, ⟨none, (.mov 12 (.t 1))⟩, ⟨none, (.bin 13 .eql (.t 11) (.t 12))⟩, ⟨none, (.mov 4 (.t 13))⟩]
def f49b23 : AQ := (.seq (.region f49r22) .ret)
def f49b24 : AQ := (.cond (.t 9) f49b23 .skip)
def f49r25 : List AI := [⟨none, (.faddr 7 0 (.t 2))⟩, ⟨none, (.load 8 1 false (.t 7))⟩, ⟨none, (.bin 9 .eql (.t 8) (.v (.k (.c (.int .i64 2)))))⟩]
def f49b26 : AQ := (.seq (.region f49r25) f49b24)
def f49b27 : AQ := (.seq f49b26 f49b21)
def f49r28 : List AI := [⟨none, (.box 2 50 (.t 0))⟩, ⟨none, (.mov 4 (.v (.k (.c (.bool false)))))⟩]
def f49b29 : AQ := (.seq (.region f49r28) f49b27)
def f49 : AQ := f49b29
theorem hf49 : cFunc Tryd.prog 49 = some ⟨29, f49.erase, [(RX.t 4)]⟩ := by kernel_rfl
theorem okf49 : f49.ok = true := by kernel_rfl
def f50r1 : List AI := [⟨none, (.mov 26 (.t 5))⟩, ⟨none, (.mov 4 (.t 26))⟩]
def f50b2 : AQ := (.seq (.region f50r1) .ret)
def f50r3 : List AI := [⟨none, (.bin 25 .add (.t 13) (.v (.k (.c (.int .i64 1)))))⟩, ⟨none, (.mov 13 (.t 25))⟩]
def f50b4 : AQ := (.cond (.t 24) (.exit 0) .skip)
def f50r5 : List AI := [⟨none, (.mov 23 (.t 5))⟩, ⟨none, (.bin 24 .gtr (.t 23) (.v (.k (.c (.int .i64 60)))))⟩]
def f50b6 : AQ := (.seq (.region f50r5) f50b4)
def f50r7 : List AI := [⟨none, (.mov 17 (.t 5))⟩, ⟨none, (.load 18 3 true (.t 7))⟩, ⟨none, (.mov 19 (.t 1))⟩, ⟨none, (.bin 20 .add (.t 19) (.v (.k (.c (.int .i64 1)))))⟩, ⟨none, (.call (some 21) 50 [(.t 18), (.t 20)])⟩, ⟨none, (.bin 22 .add (.t 17) (.t 21))⟩, ⟨none, (.mov 5 (.t 22))⟩]
def f50b8 : AQ := (.seq (.region f50r7) f50b6)
def f50r9 : List AI := [⟨none, (.iaddr 15 3 (.t 11) (.t 13))⟩, ⟨none, (.load 16 3 true (.t 15))⟩, ⟨none, (.alloc 7 50 [(.int .i64 0), (.int .i64 0), (.list 0 (some true) [])])⟩, ⟨none, (.store 3 (.t 7) (.t 16))⟩]
def f50b10 : AQ := (.seq (.region f50r9) f50b8)
def f50b11 : AQ := (.block 1 f50b10)
def f50b12 : AQ := (.seq f50b11 (.region f50r3))
def f50b13 : AQ := (.cond (.t 14) .skip (.exit 0))
def f50b14 : AQ := (.seq f50b13 f50b12)
def f50r15 : List AI := [⟨none, (.bin 14 .lss (.t 13) (.t 12))⟩]
def f50b16 : AQ := (.seq (.region f50r15) f50b14)
def f50l17 : AQ := .loop [1, 5, 11, 12, 13] [] f50b16
theorem uf50l17 (P ts os Q) : awl P f50l17 Q ts os = awl P (.loop [1, 5, 11, 12, 13] [] f50b16) Q ts os := id rfl
def f50b18 : AQ := (.block 0 f50l17)
def f50r19 : List AI := [⟨none, (.faddr 10 2 (.t 2))⟩, ⟨none, (.load 11 1 false (.t 10))⟩, ⟨none, (.len 12 (.t 11))⟩, ⟨none, (.mov 13 (.v (.k (.c (.int .i64 0)))))⟩]
def f50b20 : AQ := (.seq (.region f50r19) f50b18)
def f50b21 : AQ := (.seq f50b20 f50b2)
def f50r22 : List AI := [⟨none, (.mov 5 (.v (.k (.c (.int .i64 1)))))⟩]
def f50b23 : AQ := (.seq (.region f50r22) f50b21)
def f50r24 : List AI := [⟨none, (.mov 4 (.v (.k (.c (.int .i64 61)))))⟩]
def f50b25 : AQ := (.seq (.region f50r24) .ret)
def f50b26 : AQ := (.cond (.t 9) f50b25 .skip)
def f50r27 : List AI := [⟨none, (.mov 8 (.t 1))⟩, ⟨none, (.bin 9 .gtr (.t 8) (.v (.k (.c (.int .i64 8)))))⟩]
def f50b28 : AQ := (.seq (.region f50r27) f50b26)
def f50b29 : AQ := (.seq f50b28 f50b23)
def f50r30 : List AI := [⟨none, (.box 2 50 (.t 0))⟩, ⟨none, (.mov 4 (.v (.k (.c (.int .i64 0)))))⟩]
def f50b31 : AQ := (.seq (.region f50r30) f50b29)
def f50 : AQ := f50b31
theorem hf50 : cFunc Tryd.prog 50 = some ⟨27, f50.erase, [(RX.t 4)]⟩ := by kernel_rfl
theorem okf50 : f50.ok = true := by kernel_rfl
def f51r1 : List AI := [⟨none, (.faddr 111 1 (.t 9))⟩, ⟨none, (.load 112 1 false (.t 111))⟩, ⟨none, (.mov 2 (.t 112))⟩, ⟨none, (.mov 3 (.v (.k (.c (.int .i64 0)))))⟩]
def f51b2 : AQ := (.seq (.region f51r1) .ret)
def f51r3 : List AI := [⟨none, (.mov 110 (.t 10))⟩, ⟨none, (.mov 2 (.t 110))⟩, ⟨none, (.mov 3 (.v (.k (.c (.int .i64 0)))))⟩]
def f51b4 : AQ := (.seq (.region f51r3) .ret)
def f51b5 : AQ := (.cond (.t 109) f51b4 .skip)
def f51r6 : List AI := [⟨none, (.faddr 107 1 (.t 9))⟩, ⟨none, (.load 108 1 false (.t 107))⟩, ⟨none, (.bin 109 .eql (.t 108) (.v (.k (.c (.int .i64 (-1))))))⟩]
def f51b7 : AQ := (.seq (.region f51r6) f51b5)
def f51b8 : AQ := (.seq f51b7 f51b2)
def f51r9 : List AI := [⟨none, (.bin 106 .add (.t 82) (.v (.k (.c (.int .i64 1)))))⟩, ⟨none, (.mov 82 (.t 106))⟩]
def f51r10 : List AI := [⟨none, (.mov 2 (.v (.k (.c (.int .i64 0)))))⟩, ⟨none, (.mov 3 (.v (.k (.c (.int .i64 11)))))⟩]
def f51b11 : AQ := (.seq (.region f51r10) .ret)
def f51b12 : AQ := (.cond (.t 105) f51b11 .skip)
def f51r13 : List AI := [⟨none, (.mov 100 (.t 4))⟩, ⟨none, (.mov 101 (.t 11))⟩, ⟨none, (.iaddr 102 1 (.t 100) (.t 101))⟩, ⟨none, (.load 103 1 false (.t 102))⟩, ⟨none, (.mov 104 (.t 12))⟩, ⟨none, (.bin 105 .neq (.t 103) (.t 104))⟩]
def f51b14 : AQ := (.seq (.region f51r13) f51b12)
def f51r15 : List AI := [⟨none, (.mov 99 (.t 10))⟩, ⟨none, (.mov 12 (.t 99))⟩]
def f51b16 : AQ := (.cond (.t 98) (.region f51r15) .skip)
def f51r17 : List AI := [⟨none, (.mov 97 (.t 12))⟩, ⟨none, (.bin 98 .eql (.t 97) (.v (.k (.c (.int .i64 (-1))))))⟩]
def f51b18 : AQ := (.seq (.region f51r17) f51b16)
def f51b19 : AQ := (.seq f51b18 f51b14)
def f51r20 : List AI := [⟨none, (.mov 93 (.t 4))⟩, ⟨none, (.mov 94 (.t 11))⟩, ⟨none, (.iaddr 95 1 (.t 93) (.t 94))⟩, ⟨none, (.load 96 1 false (.t 95))⟩, ⟨none, (.mov 10 (.t 96))⟩]
def f51b21 : AQ := (.cond (.t 92) (.region f51r20) .skip)
def f51r22 : List AI := [⟨none, (.mov 87 (.t 12))⟩, ⟨none, (.bin 88 .eql (.t 87) (.v (.k (.c (.int .i64 (-1))))))⟩, ⟨none, (.mov 89 (.t 88))⟩, ⟨(some (89, true)), (.mov 90 (.t 10))⟩, ⟨(some (89, true)), (.bin 91 .eql (.t 90) (.v (.k (.c (.int .i64 (-1))))))⟩, ⟨none, (.pick 92 (.t 89) (.t 91) (.v (.k (.c (.bool false)))))⟩]
def f51b23 : AQ := (.seq (.region f51r22) f51b21)
def f51b24 : AQ := (.seq f51b23 f51b19)
def f51r25 : List AI := [⟨none, (.mov 84 (.t 82))⟩, ⟨none, (.iaddr 85 1 (.t 80) (.t 82))⟩, ⟨none, (.load 86 1 false (.t 85))⟩, ⟨none, (.mov 11 (.t 84))⟩, ⟨none, (.mov 12 (.t 86))⟩]
def f51b26 : AQ := (.seq (.region f51r25) f51b24)
def f51b27 : AQ := (.block 4 f51b26)
def f51b28 : AQ := (.seq f51b27 (.region f51r9))
def f51b29 : AQ := (.cond (.t 83) .skip (.exit 3))
def f51b30 : AQ := (.seq f51b29 f51b28)
def f51r31 : List AI := [⟨none, (.bin 83 .lss (.t 82) (.t 81))⟩]
def f51b32 : AQ := (.seq (.region f51r31) f51b30)
def f51l33 : AQ := .loop [4, 9, 10, 80, 81, 82] [9, 16, 67, 68000, 68001, 68002] f51b32
theorem uf51l33 (P ts os Q) : awl P f51l33 Q ts os = awl P (.loop [4, 9, 10, 80, 81, 82] [9, 16, 67, 68000, 68001, 68002] f51b32) Q ts os := id rfl
def f51b34 : AQ := (.block 3 f51l33)
def f51r35 : List AI := [⟨none, (.faddr 79 0 (.t 9))⟩, ⟨none, (.load 80 1 false (.t 79))⟩, ⟨none, (.len 81 (.t 80))⟩, ⟨none, (.mov 82 (.v (.k (.c (.int .i64 0)))))⟩]
def f51b36 : AQ := (.seq (.region f51r35) f51b34)
def f51b37 : AQ := (.seq f51b36 f51b8)
def f51r38 : List AI := [⟨none, (.mov 10 (.v (.k (.c (.int .i64 (-1))))))⟩]
def f51b39 : AQ := (.seq (.region f51r38) f51b37)
def f51r40 : List AI := [⟨none, (.mov 2 (.v (.k (.c (.int .i64 0)))))⟩, ⟨none, (.mov 3 (.v (.k (.c (.int .i64 2)))))⟩]
def f51b41 : AQ := (.seq (.region f51r40) .ret)
def f51b42 : AQ := (.cond (.t 78) f51b41 .skip)
def f51r43 : List AI := [⟨none, (.mov 68 (.t 4))⟩, ⟨none, (.len 69 (.t 68))⟩, ⟨none, (.faddr 70 0 (.t 9))⟩, ⟨none, (.load 71 1 false (.t 70))⟩, ⟨none, (.len 72 (.t 71))⟩, ⟨none, (.bin 73 .neq (.t 69) (.t 72))⟩, ⟨none, (.mov 74 (.t 73))⟩, ⟨(some (74, false)), (.faddr 75 1 (.t 1))⟩, ⟨(some (74, false)), (.load 76 1 false (.t 75))⟩, ⟨(some (74, false)), (.bin 77 .neq (.t 76) (.v (.k (.c (.int .i64 0)))))⟩, ⟨none, (.pick 78 (.t 74) (.v (.k (.c (.bool true)))) (.t 77))⟩]
def f51b44 : AQ := (.seq (.region f51r43) f51b42)
def f51b45 : AQ := (.seq f51b44 f51b39)
def f51r46 : List AI := [⟨none, (.faddr 65 0 (.t 1))⟩, ⟨none, (.load 66 1 false (.t 65))⟩, ⟨none, (.call (some 67) 62 [(.t 66)])⟩, ⟨none, (.alloc 9 93 [(.list 0 (some true) []), (.int .i64 0)])⟩, ⟨none, (.store 2 (.t 9) (.t 67))⟩]
def f51b47 : AQ := (.seq (.region f51r46) f51b45)
def f51r48 : List AI := [⟨none, (.mov 2 (.v (.k (.c (.int .i64 0)))))⟩, ⟨none, (.mov 3 (.v (.k (.c (.int .i64 1)))))⟩]
def f51b49 : AQ := (.seq (.region f51r48) .ret)
def f51r50 : List AI := [⟨none, (.load 61 3 true (.t 1))⟩, ⟨none, (.call (some 62) 61 [(.t 61)])⟩, ⟨none, (.extr 63 (.t 62) 0)⟩, ⟨none, (.extr 64 (.t 62) 1)⟩, ⟨none, (.mov 2 (.t 63))⟩, ⟨none, (.mov 3 (.t 64))⟩]
def f51b51 : AQ := (.seq (.region f51r50) .ret)
def f51b52 : AQ := (.cond (.t 47) f51b51 .skip)
def f51r53 : List AI := [⟨none, (.faddr 48 0 (.t 1))⟩, ⟨none, (.load 49 1 false (.t 48))⟩, ⟨none, (.bin 50 .eql (.t 49) (.v (.k (.c (.int .i64 0)))))⟩, ⟨none, (.mov 51 (.t 50))⟩, ⟨(some (51, false)), (.faddr 52 0 (.t 1))⟩, ⟨(some (51, false)), (.load 53 1 false (.t 52))⟩, ⟨(some (51, false)), (.bin 54 .eql (.t 53) (.v (.k (.c (.int .i64 1)))))⟩, ⟨none, (.pick 55 (.t 51) (.v (.k (.c (.bool true)))) (.t 54))⟩, ⟨none, (.mov 56 (.t 55))⟩, ⟨(some (56, false)), (.faddr 57 0 (.t 1))⟩, ⟨(some (56, false)), (.load 58 1 false (.t 57))⟩, ⟨(some (56, false)), (.bin 59 .eql (.t 58) (.v (.k (.c (.int .i64 2)))))⟩, ⟨none, (.pick 60 (.t 56) (.v (.k (.c (.bool true)))) (.t 59))⟩, ⟨none, (.mov 47 (.t 60))⟩]
def f51b54 : AQ := (.seq (.region f51r53) f51b52)
def f51b55 : AQ := (.cond (.t 38) f51b49 f51b54)
def f51r56 : List AI := [⟨none, (.faddr 39 0 (.t 1))⟩, ⟨none, (.load 40 1 false (.t 39))⟩, ⟨none, (.bin 41 .lss (.t 40) (.v (.k (.c (.int .i64 0)))))⟩, ⟨none, (.mov 42 (.t 41))⟩, ⟨(some (42, false)), (.faddr 43 0 (.t 1))⟩, ⟨(some (42, false)), (.load 44 1 false (.t 43))⟩, ⟨(some (42, false)), (.bin 45 .gtr (.t 44) (.v (.k (.c (.int .i64 13)))))⟩, ⟨none, (.pick 46 (.t 42) (.v (.k (.c (.bool true)))) (.t 45))⟩, ⟨none, (.mov 38 (.t 46))⟩]
def f51b57 : AQ := (.seq (.region f51r56) f51b55)
def f51b58 : AQ := (.block 2 f51b57)
def f51b59 : AQ := (.seq f51b58 f51b47)
def f51r60 : List AI := [⟨none, (.bin 37 .add (.t 20) (.v (.k (.c (.int .i64 1)))))⟩, ⟨none, (.mov 20 (.t 37))⟩]
def f51r61 : List AI := [⟨none, (.mov 33 (.t 4))⟩, ⟨none, (.mov 34 (.t 5))⟩, ⟨none, (.mov 35 (.t 7))⟩, ⟨none, (.iaddr 36 1 (.t 33) (.t 34))⟩, ⟨none, (.store 1 (.t 36) (.t 35))⟩]
def f51r62 : List AI := [⟨none, (.mov 32 (.t 8))⟩, ⟨none, (.mov 2 (.v (.k (.c (.int .i64 0)))))⟩, ⟨none, (.mov 3 (.t 32))⟩]
def f51b63 : AQ := (.seq (.region f51r62) .ret)
def f51b64 : AQ := (.cond (.t 31) f51b63 .skip)
def f51r65 : List AI := [⟨none, (.mov 30 (.t 8))⟩, ⟨none, (.bin 31 .neq (.t 30) (.v (.k (.c (.int .i64 0)))))⟩]
def f51b66 : AQ := (.seq (.region f51r65) f51b64)
def f51b67 : AQ := (.seq f51b66 (.region f51r61))
def f51r68 : List AI := [⟨none, (.load 26 3 true (.t 6))⟩, ⟨none, (.call (some 27) 51 [(.t 26)])⟩, ⟨none, (.mov 25 (.t 27))⟩, ⟨none, (.extr 28 (.t 25) 0)⟩, ⟨none, (.extr 29 (.t 25) 1)⟩, ⟨none, (.mov 7 (.t 28))⟩, ⟨none, (.mov 8 (.t 29))⟩]
def f51b69 : AQ := (.seq (.region f51r68) f51b67)
def f51r70 : List AI := [⟨none, (.mov 22 (.t 20))⟩, ⟨none, (.iaddr 23 3 (.t 18) (.t 20))⟩, ⟨none, (.load 24 3 true (.t 23))⟩, ⟨none, (.alloc 6 50 [(.int .i64 0), (.int .i64 0), (.list 0 (some true) [])])⟩, ⟨none, (.mov 5 (.t 22))⟩, ⟨none, (.store 3 (.t 6) (.t 24))⟩]
def f51b71 : AQ := (.seq (.region f51r70) f51b69)
def f51b72 : AQ := (.block 1 f51b71)
def f51b73 : AQ := (.seq f51b72 (.region f51r60))
def f51b74 : AQ := (.cond (.t 21) .skip (.exit 0))
def f51b75 : AQ := (.seq f51b74 f51b73)
def f51r76 : List AI := [⟨none, (.bin 21 .lss (.t 20) (.t 19))⟩]
def f51b77 : AQ := (.seq (.region f51r76) f51b75)
def f51l78 : AQ := .loop [1, 4, 18, 19, 20] [1, 16] f51b77
theorem uf51l78 (P ts os Q) : awl P f51l78 Q ts os = awl P (.loop [1, 4, 18, 19, 20] [1, 16] f51b77) Q ts os := id rfl
def f51b79 : AQ := (.block 0 f51l78)
def f51r80 : List AI := [⟨none, (.faddr 17 2 (.t 1))⟩, ⟨none, (.load 18 1 false (.t 17))⟩, ⟨none, (.len 19 (.t 18))⟩, ⟨none, (.mov 20 (.v (.k (.c (.int .i64 0)))))⟩]
def f51b81 : AQ := (.seq (.region f51r80) f51b79)
def f51b82 : AQ := (.seq f51b81 f51b59)
def f51r83 : List AI := [⟨none, (.faddr 13 2 (.t 1))⟩, ⟨none, (.load 14 1 false (.t 13))⟩, ⟨none, (.len 15 (.t 14))⟩, ⟨none, (.mkslice 16 3 1 8 [(.int .i64 0)] (.t 15) (.t 15))⟩, ⟨none, (.mov 4 (.t 16))⟩]
def f51b84 : AQ := (.seq (.region f51r83) f51b82)
def f51r85 : List AI := [⟨none, (.box 1 50 (.t 0))⟩, ⟨none, (.mov 2 (.v (.k (.c (.int .i64 0)))))⟩, ⟨none, (.mov 3 (.v (.k (.c (.int .i64 0)))))⟩]
def f51b86 : AQ := (.seq (.region f51r85) f51b84)
def f51 : AQ := f51b86
theorem hf51 : cFunc Tryd.prog 51 = some ⟨113, f51.erase, [(RX.t 2), (RX.t 3)]⟩ := by kernel_rfl
theorem okf51 : f51.ok = true := by kernel_rfl
def f52r1 : List AI := [⟨none, (.faddr 37 0 (.t 2))⟩, ⟨none, (.load 38 1 false (.t 37))⟩, ⟨none, (.mov 39 (.t 1))⟩, ⟨none, (.iaddr 40 2 (.t 38) (.t 39))⟩, ⟨none, (.faddr 41 1 (.t 40))⟩, ⟨none, (.load 42 1 false (.t 41))⟩, ⟨none, (.call (some 43) 65 [(.t 42)])⟩, ⟨none, (.build 44 [(.bool false), (.int .i64 0)] [(0, (1, (.v (.k (.c (.bool true)))))), (1, (1, (.t 43)))])⟩, ⟨none, (.store 2 (.t 4) (.t 44))⟩]
def f52b2 : AQ := (.seq (.region f52r1) .ret)
def f52r3 : List AI := [⟨none, (.faddr 29 0 (.t 2))⟩, ⟨none, (.load 30 1 false (.t 29))⟩, ⟨none, (.mov 31 (.t 1))⟩, ⟨none, (.iaddr 32 2 (.t 30) (.t 31))⟩, ⟨none, (.faddr 33 1 (.t 32))⟩, ⟨none, (.load 34 1 false (.t 33))⟩, ⟨none, (.bin 35 .neq (.t 34) (.v (.k (.c (.int .i64 0)))))⟩, ⟨none, (.call (some 36) 64 [(.t 35)])⟩, ⟨none, (.store 2 (.t 4) (.t 36))⟩]
def f52b4 : AQ := (.seq (.region f52r3) .ret)
def f52b5 : AQ := (.cond (.t 28) f52b4 .skip)
def f52r6 : List AI := [⟨none, (.mov 27 (.t 5))⟩, ⟨none, (.bin 28 .eql (.t 27) (.v (.k (.c (.int .i64 1)))))⟩]
def f52b7 : AQ := (.seq (.region f52r6) f52b5)
def f52r8 : List AI := [⟨none, (.mov 23 (.t 1))⟩, ⟨none, (.call (some 24) 63 [(.t 23)])⟩, ⟨none, (.mov 22 (.t 24))⟩, ⟨none, (.extr 25 (.t 22) 0)⟩, ⟨none, (.extr 26 (.t 22) 1)⟩, ⟨none, (.mov 5 (.t 25))⟩, ⟨none, (.mov 6 (.t 26))⟩]
def f52b9 : AQ := (.seq (.region f52r8) f52b7)
def f52b10 : AQ := (.seq f52b9 f52b2)
def f52r11 : List AI := [⟨none, (.build 21 [(.bool false), (.int .i64 0)] [])⟩, ⟨none, (.store 2 (.t 4) (.t 21))⟩]
def f52b12 : AQ := (.seq (.region f52r11) .ret)
def f52b13 : AQ := (.cond (.t 20) f52b12 .skip)
def f52r14 : List AI := [⟨none, (.mov 7 (.t 1))⟩, ⟨none, (.faddr 8 0 (.t 2))⟩, ⟨none, (.load 9 1 false (.t 8))⟩, ⟨none, (.len 10 (.t 9))⟩, ⟨none, (.bin 11 .geq (.t 7) (.t 10))⟩, ⟨none, (.mov 12 (.t 11))⟩, ⟨(some (12, false)), (.faddr 13 0 (.t 2))⟩, ⟨(some (12, false)), (.load 14 1 false (.t 13))⟩, ⟨(some (12, false)), (.mov 15 (.t 1))⟩, ⟨(some (12, false)), (.iaddr 16 2 (.t 14) (.t 15))⟩, ⟨(some (12, false)), (.faddr 17 0 (.t 16))⟩, ⟨(some (12, false)), (.load 18 1 false (.t 17))⟩, ⟨(some (12, false)), (.un 19 .not (.t 18))⟩, ⟨none, (.pick 20 (.t 12) (.v (.k (.c (.bool true)))) (.t 19))⟩]
def f52b15 : AQ := (.seq (.region f52r14) f52b13)
def f52b16 : AQ := (.seq f52b15 f52b10)
def f52r17 : List AI := [⟨none, (.box 2 73 (.t 0))⟩, ⟨none, (.alloc 4 30 [(.bool false), (.int .i64 0)])⟩]
def f52b18 : AQ := (.seq (.region f52r17) f52b16)
def f52 : AQ := f52b18
theorem hf52 : cFunc Tryd.prog 52 = some ⟨45, f52.erase, [(RX.cell 4 2 true)]⟩ := by kernel_rfl
theorem okf52 : f52.ok = true := by kernel_rfl
def f53r1 : List AI := [⟨none, (.mov 100 (.t 0))⟩, ⟨none, (.mov 101 (.t 6))⟩, ⟨none, (.mov 102 (.t 7))⟩, ⟨none, (.call (some 103) 66 [(.t 100), (.t 101), (.t 102)])⟩, ⟨none, (.build 104 [(.bool false), (.int .i64 0)] [(0, (1, (.v (.k (.c (.bool true)))))), (1, (1, (.t 103)))])⟩, ⟨none, (.store 2 (.t 4) (.t 104))⟩]
def f53b2 : AQ := (.seq (.region f53r1) .ret)
def f53r3 : List AI := [⟨none, (.mov 85 (.t 0))⟩, ⟨none, (.bin 86 .eql (.t 85) (.v (.k (.c (.int .i64 4)))))⟩, ⟨none, (.call (some 87) 64 [(.t 86)])⟩, ⟨none, (.store 2 (.t 4) (.t 87))⟩]
def f53b4 : AQ := (.seq (.region f53r3) .ret)
def f53r5 : List AI := [⟨none, (.mov 90 (.t 6))⟩, ⟨none, (.mov 91 (.t 7))⟩, ⟨none, (.bin 92 .lss (.t 90) (.t 91))⟩, ⟨none, (.call (some 93) 64 [(.t 92)])⟩, ⟨none, (.store 2 (.t 4) (.t 93))⟩]
def f53b6 : AQ := (.seq (.region f53r5) .ret)
def f53r7 : List AI := [⟨none, (.mov 96 (.t 6))⟩, ⟨none, (.mov 97 (.t 7))⟩, ⟨none, (.bin 98 .eql (.t 96) (.t 97))⟩, ⟨none, (.call (some 99) 64 [(.t 98)])⟩, ⟨none, (.store 2 (.t 4) (.t 99))⟩]
def f53b8 : AQ := (.seq (.region f53r7) .ret)
def f53b9 : AQ := (.cond (.t 94) f53b8 .skip)
def f53r10 : List AI := [⟨none, (.bin 95 .eql (.t 81) (.v (.k (.c (.int .i64 8)))))⟩, ⟨none, (.mov 94 (.t 95))⟩]
def f53b11 : AQ := (.seq (.region f53r10) f53b9)
def f53b12 : AQ := (.cond (.t 88) f53b6 f53b11)
def f53r13 : List AI := [⟨none, (.bin 89 .eql (.t 81) (.v (.k (.c (.int .i64 7)))))⟩, ⟨none, (.mov 88 (.t 89))⟩]
def f53b14 : AQ := (.seq (.region f53r13) f53b12)
def f53b15 : AQ := (.cond (.t 82) f53b4 f53b14)
def f53r16 : List AI := [⟨none, (.bin 84 .eql (.t 81) (.v (.k (.c (.int .i64 5)))))⟩, ⟨none, (.mov 82 (.t 84))⟩]
def f53b17 : AQ := (.cond (.t 82) .skip (.region f53r16))
def f53r18 : List AI := [⟨none, (.bin 83 .eql (.t 81) (.v (.k (.c (.int .i64 4)))))⟩, ⟨none, (.mov 82 (.t 83))⟩]
def f53b19 : AQ := (.seq (.region f53r18) f53b17)
def f53b20 : AQ := (.seq f53b19 f53b15)
def f53b21 : AQ := (.block 1 f53b20)
def f53r22 : List AI := [⟨none, (.mov 81 (.t 0))⟩]
def f53b23 : AQ := (.seq (.region f53r22) f53b21)
def f53b24 : AQ := (.seq f53b23 f53b2)
def f53r25 : List AI := [⟨none, (.mov 73 (.t 1))⟩, ⟨none, (.iaddr 74 2 (.t 73) (.v (.k (.c (.int .i64 0)))))⟩, ⟨none, (.faddr 75 1 (.t 74))⟩, ⟨none, (.load 76 1 false (.t 75))⟩, ⟨none, (.mov 77 (.t 1))⟩, ⟨none, (.iaddr 78 2 (.t 77) (.v (.k (.c (.int .i64 1)))))⟩, ⟨none, (.faddr 79 1 (.t 78))⟩, ⟨none, (.load 80 1 false (.t 79))⟩, ⟨none, (.mov 6 (.t 76))⟩, ⟨none, (.mov 7 (.t 80))⟩]
def f53b26 : AQ := (.seq (.draw f53r25 [[], [0], [1], [2], [], [4], [5], [6], [3, 0, 1, 2, 3], [7, 8, 0, 1, 2, 3, 4, 5, 6, 7, 8]]) f53b24)
def f53r27 : List AI := [⟨none, (.build 72 [(.bool false), (.int .i64 0)] [])⟩, ⟨none, (.store 2 (.t 4) (.t 72))⟩]
def f53b28 : AQ := (.seq (.region f53r27) .ret)
def f53b29 : AQ := (.cond (.t 71) f53b28 .skip)
def f53r30 : List AI := [⟨none, (.mov 60 (.t 1))⟩, ⟨none, (.iaddr 61 2 (.t 60) (.v (.k (.c (.int .i64 0)))))⟩, ⟨none, (.faddr 62 0 (.t 61))⟩, ⟨none, (.load 63 1 false (.t 62))⟩, ⟨none, (.un 64 .not (.t 63))⟩, ⟨none, (.mov 65 (.t 64))⟩, ⟨(some (65, false)), (.mov 66 (.t 1))⟩, ⟨(some (65, false)), (.iaddr 67 2 (.t 66) (.v (.k (.c (.int .i64 1)))))⟩, ⟨(some (65, false)), (.faddr 68 0 (.t 67))⟩, ⟨(some (65, false)), (.load 69 1 false (.t 68))⟩, ⟨(some (65, false)), (.un 70 .not (.t 69))⟩, ⟨none, (.pick 71 (.t 65) (.v (.k (.c (.bool true)))) (.t 70))⟩]
def f53b31 : AQ := (.seq (.region f53r30) f53b29)
def f53b32 : AQ := (.seq f53b31 f53b26)
def f53r33 : List AI := [⟨none, (.build 21 [(.bool false), (.int .i64 0)] [])⟩, ⟨none, (.store 2 (.t 4) (.t 21))⟩]
def f53b34 : AQ := (.seq (.region f53r33) .ret)
def f53r35 : List AI := [⟨none, (.mov 15 (.t 1))⟩, ⟨none, (.iaddr 16 2 (.t 15) (.v (.k (.c (.int .i64 0)))))⟩, ⟨none, (.faddr 17 1 (.t 16))⟩, ⟨none, (.load 18 1 false (.t 17))⟩, ⟨none, (.bin 19 .eql (.t 18) (.v (.k (.c (.int .i64 0)))))⟩, ⟨none, (.call (some 20) 64 [(.t 19)])⟩, ⟨none, (.store 2 (.t 4) (.t 20))⟩]
def f53b36 : AQ := (.seq (.region f53r35) .ret)
def f53b37 : AQ := (.cond (.t 14) f53b36 .skip)
def f53r38 : List AI := [⟨none, (.mov 11 (.t 1))⟩, ⟨none, (.iaddr 12 2 (.t 11) (.v (.k (.c (.int .i64 0)))))⟩, ⟨none, (.faddr 13 0 (.t 12))⟩, ⟨none, (.load 14 1 false (.t 13))⟩]
def f53b39 : AQ := (.seq (.region f53r38) f53b37)
def f53b40 : AQ := (.seq f53b39 f53b34)
def f53r41 : List AI := [⟨none, (.load 40 2 true (.t 5))⟩, ⟨none, (.store 2 (.t 4) (.t 40))⟩]
def f53b42 : AQ := (.seq (.region f53r41) .ret)
def f53b43 : AQ := (.cond (.t 39) f53b42 .skip)
def f53r44 : List AI := [⟨none, (.mov 28 (.t 1))⟩, ⟨none, (.iaddr 29 2 (.t 28) (.v (.k (.c (.int .i64 0)))))⟩, ⟨none, (.load 30 2 true (.t 29))⟩, ⟨none, (.load 31 2 true (.t 5))⟩, ⟨none, (.eqAgg 32 false [.bool, .int] (.t 30) (.t 31))⟩, ⟨none, (.mov 33 (.t 32))⟩, ⟨(some (33, false)), (.mov 34 (.t 1))⟩, ⟨(some (33, false)), (.iaddr 35 2 (.t 34) (.v (.k (.c (.int .i64 1)))))⟩, ⟨(some (33, false)), (.load 36 2 true (.t 35))⟩, ⟨(some (33, false)), (.load 37 2 true (.t 5))⟩, ⟨(some (33, false)), (.eqAgg 38 false [.bool, .int] (.t 36) (.t 37))⟩, ⟨none, (.pick 39 (.t 33) (.v (.k (.c (.bool true)))) (.t 38))⟩]
def f53b45 : AQ := (.seq (.draw f53r44 [[], [0], [1], [], [2, 3], [4], [5], [6, 5], [7, 5], [5], [8, 9, 5], [5, 10]]) f53b43)
def f53r46 : List AI := [⟨none, (.mov 25 (.t 0))⟩, ⟨none, (.bin 26 .eql (.t 25) (.v (.k (.c (.int .i64 5)))))⟩, ⟨none, (.call (some 27) 64 [(.t 26)])⟩, ⟨none, (.alloc 5 30 [(.bool false), (.int .i64 0)])⟩, ⟨none, (.store 2 (.t 5) (.t 27))⟩]
def f53b47 : AQ := (.seq (.region f53r46) f53b45)
def f53r48 : List AI := [⟨none, (.build 59 [(.bool false), (.int .i64 0)] [])⟩, ⟨none, (.store 2 (.t 4) (.t 59))⟩]
def f53b49 : AQ := (.seq (.region f53r48) .ret)
def f53r50 : List AI := [⟨none, (.mov 56 (.t 1))⟩, ⟨none, (.iaddr 57 2 (.t 56) (.v (.k (.c (.int .i64 1)))))⟩, ⟨none, (.load 58 2 true (.t 57))⟩, ⟨none, (.store 2 (.t 4) (.t 58))⟩]
def f53b51 : AQ := (.seq (.region f53r50) .ret)
def f53b52 : AQ := (.cond (.t 55) f53b51 .skip)
def f53r53 : List AI := [⟨none, (.mov 43 (.t 1))⟩, ⟨none, (.iaddr 44 2 (.t 43) (.v (.k (.c (.int .i64 1)))))⟩, ⟨none, (.faddr 45 0 (.t 44))⟩, ⟨none, (.load 46 1 false (.t 45))⟩, ⟨none, (.mov 47 (.t 46))⟩, ⟨(some (47, true)), (.mov 48 (.t 1))⟩, ⟨(some (47, true)), (.iaddr 49 2 (.t 48) (.v (.k (.c (.int .i64 1)))))⟩, ⟨(some (47, true)), (.load 50 2 true (.t 49))⟩, ⟨(some (47, true)), (.mov 51 (.t 1))⟩, ⟨(some (47, true)), (.iaddr 52 2 (.t 51) (.v (.k (.c (.int .i64 2)))))⟩, ⟨(some (47, true)), (.load 53 2 true (.t 52))⟩, ⟨(some (47, true)), (.eqAgg 54 false [.bool, .int] (.t 50) (.t 53))⟩, ⟨none, (.pick 55 (.t 47) (.t 54) (.v (.k (.c (.bool false)))))⟩]
def f53b54 : AQ := (.seq (.draw f53r53 [[], [0], [1], [2], [3], [4], [5, 4], [6, 4], [4], [8, 4], [9, 4], [7, 10, 4], [4, 11]]) f53b52)
def f53b55 : AQ := (.seq f53b54 f53b49)
def f53b56 : AQ := (.cond (.t 41) f53b55 .skip)
def f53r57 : List AI := [⟨none, (.bin 42 .eql (.t 8) (.v (.k (.c (.int .i64 6)))))⟩, ⟨none, (.mov 41 (.t 42))⟩]
def f53b58 : AQ := (.seq (.region f53r57) f53b56)
def f53b59 : AQ := (.cond (.t 22) f53b47 f53b58)
def f53r60 : List AI := [⟨none, (.bin 24 .eql (.t 8) (.v (.k (.c (.int .i64 5)))))⟩, ⟨none, (.mov 22 (.t 24))⟩]
def f53b61 : AQ := (.cond (.t 22) .skip (.region f53r60))
def f53r62 : List AI := [⟨none, (.bin 23 .eql (.t 8) (.v (.k (.c (.int .i64 4)))))⟩, ⟨none, (.mov 22 (.t 23))⟩]
def f53b63 : AQ := (.seq (.region f53r62) f53b61)
def f53b64 : AQ := (.seq f53b63 f53b59)
def f53b65 : AQ := (.cond (.t 9) f53b40 f53b64)
def f53r66 : List AI := [⟨none, (.bin 10 .eql (.t 8) (.v (.k (.c (.int .i64 3)))))⟩, ⟨none, (.mov 9 (.t 10))⟩]
def f53b67 : AQ := (.seq (.region f53r66) f53b65)
def f53b68 : AQ := (.block 0 f53b67)
def f53r69 : List AI := [⟨none, (.mov 8 (.t 0))⟩]
def f53b70 : AQ := (.seq (.region f53r69) f53b68)
def f53b71 : AQ := (.seq f53b70 f53b32)
def f53r72 : List AI := [⟨none, (.alloc 4 30 [(.bool false), (.int .i64 0)])⟩]
def f53b73 : AQ := (.seq (.region f53r72) f53b71)
def f53 : AQ := f53b73
theorem hf53 : cFunc Tryd.prog 53 = some ⟨105, f53.erase, [(RX.cell 4 2 true)]⟩ := by kernel_rfl
theorem okf53 : f53.ok = true := by kernel_rfl
def f54r1 : List AI := [⟨none, (.mov 35 (.t 6))⟩, ⟨none, (.mov 2 (.t 35))⟩]
def f54b2 : AQ := (.seq (.region f54r1) .ret)
def f54r3 : List AI := [⟨none, (.bin 34 .add (.t 27) (.v (.k (.c (.int .i64 1)))))⟩, ⟨none, (.mov 27 (.t 34))⟩]
def f54r4 : List AI := [⟨none, (.mov 31 (.t 6))⟩, ⟨none, (.mov 32 (.t 8))⟩, ⟨none, (.append 33 3 1 8 (.t 31) (.t 32))⟩, ⟨none, (.mov 6 (.t 33))⟩]
def f54r5 : List AI := [⟨none, (.iaddr 29 1 (.t 25) (.t 27))⟩, ⟨none, (.load 30 1 false (.t 29))⟩, ⟨none, (.mov 8 (.t 30))⟩]
def f54b6 : AQ := (.seq (.region f54r5) (.region f54r4))
def f54b7 : AQ := (.block 3 f54b6)
def f54b8 : AQ := (.seq f54b7 (.region f54r3))
def f54b9 : AQ := (.cond (.t 28) .skip (.exit 2))
def f54b10 : AQ := (.seq f54b9 f54b8)
def f54r11 : List AI := [⟨none, (.bin 28 .lss (.t 27) (.t 26))⟩]
def f54b12 : AQ := (.seq (.region f54r11) f54b10)
def f54l13 : AQ := .loop [6, 25, 26, 27] [24, 33, 25000, 25001, 25002] f54b12
theorem uf54l13 (P ts os Q) : awl P f54l13 Q ts os = awl P (.loop [6, 25, 26, 27] [24, 33, 25000, 25001, 25002] f54b12) Q ts os := id rfl
def f54b14 : AQ := (.block 2 f54l13)
def f54r15 : List AI := [⟨none, (.mov 25 (.t 0))⟩, ⟨none, (.len 26 (.t 25))⟩, ⟨none, (.mov 27 (.v (.k (.c (.int .i64 0)))))⟩]
def f54b16 : AQ := (.seq (.region f54r15) f54b14)
def f54b17 : AQ := (.seq f54b16 f54b2)
def f54r18 : List AI := [⟨none, (.mov 23 (.t 3))⟩, ⟨none, (.call (some 24) 67 [(.v (.k (.c (.list 0 (some true) [])))), (.t 23)])⟩, ⟨none, (.mov 6 (.t 24))⟩]
def f54b19 : AQ := (.seq (.region f54r18) f54b17)
def f54r20 : List AI := [⟨none, (.bin 22 .add (.t 11) (.v (.k (.c (.int .i64 1)))))⟩, ⟨none, (.mov 11 (.t 22))⟩]
def f54b21 : AQ := (.cond (.v V.any) .skip .skip)
def f54b22 : AQ := (.cond (.t 20) f54b21 .skip)
def f54r23 : List AI := [⟨none, (.mov 19 (.t 3))⟩, ⟨none, (.bin 20 .lss (.t 19) (.v (.k (.c (.int .i64 0)))))⟩]
def f54b24 : AQ := (.seq (.region f54r23) f54b22)
def f54r25 : List AI := [⟨none, (.mov 15 (.t 3))⟩, ⟨none, (.mov 16 (.t 5))⟩, ⟨none, (.len 17 (.t 16))⟩, ⟨none, (.bin 18 .add (.t 15) (.t 17))⟩, ⟨none, (.mov 3 (.t 18))⟩]
def f54b26 : AQ := (.seq (.region f54r25) f54b24)
def f54r27 : List AI := [⟨none, (.iaddr 13 1 (.t 9) (.t 11))⟩, ⟨none, (.load 14 1 false (.t 13))⟩, ⟨none, (.mov 5 (.t 14))⟩]
def f54b28 : AQ := (.seq (.region f54r27) f54b26)
def f54b29 : AQ := (.block 1 f54b28)
def f54b30 : AQ := (.seq f54b29 (.region f54r20))
def f54b31 : AQ := (.cond (.t 12) .skip (.exit 0))
def f54b32 : AQ := (.seq f54b31 f54b30)
def f54r33 : List AI := [⟨none, (.bin 12 .lss (.t 11) (.t 10))⟩]
def f54b34 : AQ := (.seq (.region f54r33) f54b32)
def f54l35 : AQ := .loop [0, 3, 9, 10, 11] [] f54b34
theorem uf54l35 (P ts os Q) : awl P f54l35 Q ts os = awl P (.loop [0, 3, 9, 10, 11] [] f54b34) Q ts os := id rfl
def f54b36 : AQ := (.block 0 f54l35)
def f54r37 : List AI := [⟨none, (.mov 9 (.t 0))⟩, ⟨none, (.len 10 (.t 9))⟩, ⟨none, (.mov 11 (.v (.k (.c (.int .i64 0)))))⟩]
def f54b38 : AQ := (.seq (.region f54r37) f54b36)
def f54b39 : AQ := (.seq f54b38 f54b19)
def f54r40 : List AI := [⟨none, (.mov 3 (.v (.k (.c (.int .i64 0)))))⟩]
def f54b41 : AQ := (.seq (.region f54r40) f54b39)
def f54r42 : List AI := [⟨none, (.nilL 2 3 1)⟩]
def f54b43 : AQ := (.seq (.region f54r42) f54b41)
def f54 : AQ := f54b43
theorem hf54 : cFunc Tryd.prog 54 = some ⟨36, f54.erase, [(RX.t 2)]⟩ := by kernel_rfl
theorem okf54 : f54.ok = true := by kernel_rfl
def f55r1 : List AI := [⟨none, (.mov 74 (.t 9))⟩, ⟨none, (.mov 2 (.t 74))⟩, ⟨none, (.mov 3 (.v (.k (.c (.int .i64 0)))))⟩]
def f55b2 : AQ := (.seq (.region f55r1) .ret)
def f55r3 : List AI := [⟨none, (.mov 2 (.v (.k (.c (.int .i64 0)))))⟩, ⟨none, (.mov 3 (.v (.k (.c (.int .i64 11)))))⟩]
def f55b4 : AQ := (.seq (.region f55r3) .ret)
def f55b5 : AQ := (.cond (.t 73) f55b4 .skip)
def f55r6 : List AI := [⟨none, (.mov 72 (.t 10))⟩, ⟨none, (.un 73 .not (.t 72))⟩]
def f55b7 : AQ := (.seq (.region f55r6) f55b5)
def f55b8 : AQ := (.seq f55b7 f55b2)
def f55r9 : List AI := [⟨none, (.faddr 66 0 (.t 1))⟩, ⟨none, (.load 67 1 false (.t 66))⟩, ⟨none, (.mov 68 (.t 4))⟩, ⟨none, (.call (some 69) 70 [(.t 67), (.t 68)])⟩, ⟨none, (.mov 65 (.t 69))⟩, ⟨none, (.extr 70 (.t 65) 0)⟩, ⟨none, (.extr 71 (.t 65) 1)⟩, ⟨none, (.mov 9 (.t 70))⟩, ⟨none, (.mov 10 (.t 71))⟩]
def f55b10 : AQ := (.seq (.region f55r9) f55b8)
def f55r11 : List AI := [⟨none, (.load 61 3 true (.t 1))⟩, ⟨none, (.call (some 62) 69 [(.t 61)])⟩, ⟨none, (.extr 63 (.t 62) 0)⟩, ⟨none, (.extr 64 (.t 62) 1)⟩, ⟨none, (.mov 2 (.t 63))⟩, ⟨none, (.mov 3 (.t 64))⟩]
def f55b12 : AQ := (.seq (.region f55r11) .ret)
def f55b13 : AQ := (.cond (.t 60) f55b12 .skip)
def f55r14 : List AI := [⟨none, (.mov 59 (.t 8))⟩, ⟨none, (.bin 60 .eql (.t 59) (.v (.k (.c (.int .i64 0)))))⟩]
def f55b15 : AQ := (.seq (.region f55r14) f55b13)
def f55b16 : AQ := (.seq f55b15 f55b10)
def f55r17 : List AI := [⟨none, (.mov 2 (.v (.k (.c (.int .i64 0)))))⟩, ⟨none, (.mov 3 (.v (.k (.c (.int .i64 2)))))⟩]
def f55b18 : AQ := (.seq (.region f55r17) .ret)
def f55b19 : AQ := (.cond (.t 58) f55b18 .skip)
def f55r20 : List AI := [⟨none, (.mov 46 (.t 4))⟩, ⟨none, (.len 47 (.t 46))⟩, ⟨none, (.mov 48 (.t 8))⟩, ⟨none, (.bin 49 .neq (.t 47) (.t 48))⟩, ⟨none, (.mov 50 (.t 49))⟩, ⟨(some (50, false)), (.mov 51 (.t 8))⟩, ⟨(some (50, false)), (.bin 52 .gtr (.t 51) (.v (.k (.c (.int .i64 0)))))⟩, ⟨(some (50, false)), (.mov 53 (.t 52))⟩, ⟨(some (53, true)), (.faddr 54 1 (.t 1))⟩, ⟨(some (53, true)), (.load 55 1 false (.t 54))⟩, ⟨(some (53, true)), (.bin 56 .neq (.t 55) (.v (.k (.c (.int .i64 0)))))⟩, ⟨(some (50, false)), (.pick 57 (.t 53) (.t 56) (.v (.k (.c (.bool false)))))⟩, ⟨none, (.pick 58 (.t 50) (.v (.k (.c (.bool true)))) (.t 57))⟩]
def f55b21 : AQ := (.seq (.region f55r20) f55b19)
def f55b22 : AQ := (.seq f55b21 f55b16)
def f55r23 : List AI := [⟨none, (.faddr 43 0 (.t 1))⟩, ⟨none, (.load 44 1 false (.t 43))⟩, ⟨none, (.call (some 45) 68 [(.t 44)])⟩, ⟨none, (.mov 8 (.t 45))⟩]
def f55b24 : AQ := (.seq (.region f55r23) f55b22)
def f55r25 : List AI := [⟨none, (.mov 2 (.v (.k (.c (.int .i64 0)))))⟩, ⟨none, (.mov 3 (.v (.k (.c (.int .i64 1)))))⟩]
def f55b26 : AQ := (.seq (.region f55r25) .ret)
def f55b27 : AQ := (.cond (.t 42) f55b26 .skip)
def f55r28 : List AI := [⟨none, (.faddr 35 0 (.t 1))⟩, ⟨none, (.load 36 1 false (.t 35))⟩, ⟨none, (.bin 37 .lss (.t 36) (.v (.k (.c (.int .i64 0)))))⟩, ⟨none, (.mov 38 (.t 37))⟩, ⟨(some (38, false)), (.faddr 39 0 (.t 1))⟩, ⟨(some (38, false)), (.load 40 1 false (.t 39))⟩, ⟨(some (38, false)), (.bin 41 .geq (.t 40) (.v (.k (.c (.int .i64 14)))))⟩, ⟨none, (.pick 42 (.t 38) (.v (.k (.c (.bool true)))) (.t 41))⟩]
def f55b29 : AQ := (.seq (.region f55r28) f55b27)
def f55b30 : AQ := (.seq f55b29 f55b24)
def f55r31 : List AI := [⟨none, (.mov 17 (.t 5))⟩, ⟨none, (.bin 18 .add (.t 17) (.v (.k (.c (.int .i64 1)))))⟩, ⟨none, (.mov 5 (.t 18))⟩]
def f55r32 : List AI := [⟨none, (.mov 31 (.t 4))⟩, ⟨none, (.mov 32 (.t 6))⟩, ⟨none, (.bslice 33 3 1 [(.int .i64 0)] 1 [(0, (.t 32))])⟩, ⟨none, (.append 34 3 1 8 (.t 31) (.t 33))⟩, ⟨none, (.mov 4 (.t 34))⟩]
def f55r33 : List AI := [⟨none, (.mov 30 (.t 7))⟩, ⟨none, (.mov 2 (.v (.k (.c (.int .i64 0)))))⟩, ⟨none, (.mov 3 (.t 30))⟩]
def f55b34 : AQ := (.seq (.region f55r33) .ret)
def f55b35 : AQ := (.cond (.t 29) f55b34 .skip)
def f55r36 : List AI := [⟨none, (.mov 28 (.t 7))⟩, ⟨none, (.bin 29 .neq (.t 28) (.v (.k (.c (.int .i64 0)))))⟩]
def f55b37 : AQ := (.seq (.region f55r36) f55b35)
def f55b38 : AQ := (.seq f55b37 (.region f55r32))
def f55r39 : List AI := [⟨none, (.faddr 20 2 (.t 1))⟩, ⟨none, (.load 21 1 false (.t 20))⟩, ⟨none, (.mov 22 (.t 5))⟩, ⟨none, (.iaddr 23 3 (.t 21) (.t 22))⟩, ⟨none, (.load 24 3 true (.t 23))⟩, ⟨none, (.call (some 25) 55 [(.t 24)])⟩, ⟨none, (.mov 19 (.t 25))⟩, ⟨none, (.extr 26 (.t 19) 0)⟩, ⟨none, (.extr 27 (.t 19) 1)⟩, ⟨none, (.mov 6 (.t 26))⟩, ⟨none, (.mov 7 (.t 27))⟩]
def f55b40 : AQ := (.seq (.region f55r39) f55b38)
def f55b41 : AQ := (.block 1 f55b40)
def f55b42 : AQ := (.seq f55b41 (.region f55r31))
def f55b43 : AQ := (.cond (.t 16) .skip (.exit 0))
def f55r44 : List AI := [⟨none, (.mov 12 (.t 5))⟩, ⟨none, (.faddr 13 2 (.t 1))⟩, ⟨none, (.load 14 1 false (.t 13))⟩, ⟨none, (.len 15 (.t 14))⟩, ⟨none, (.bin 16 .lss (.t 12) (.t 15))⟩]
def f55b45 : AQ := (.seq (.region f55r44) f55b43)
def f55b46 : AQ := (.seq f55b45 f55b42)
def f55l47 : AQ := .loop [1, 4, 5] [1, 11, 34] f55b46
theorem uf55l47 (P ts os Q) : awl P f55l47 Q ts os = awl P (.loop [1, 4, 5] [1, 11, 34] f55b46) Q ts os := id rfl
def f55b48 : AQ := (.block 0 f55l47)
def f55r49 : List AI := [⟨none, (.mov 5 (.v (.k (.c (.int .i64 0)))))⟩]
def f55b50 : AQ := (.seq (.region f55r49) f55b48)
def f55b51 : AQ := (.seq f55b50 f55b30)
def f55r52 : List AI := [⟨none, (.bslice 11 3 1 [(.int .i64 0)] 0 [])⟩, ⟨none, (.mov 4 (.t 11))⟩]
def f55b53 : AQ := (.seq (.region f55r52) f55b51)
def f55r54 : List AI := [⟨none, (.box 1 50 (.t 0))⟩, ⟨none, (.mov 2 (.v (.k (.c (.int .i64 0)))))⟩, ⟨none, (.mov 3 (.v (.k (.c (.int .i64 0)))))⟩]
def f55b55 : AQ := (.seq (.region f55r54) f55b53)
def f55 : AQ := f55b55
theorem hf55 : cFunc Tryd.prog 55 = some ⟨75, f55.erase, [(RX.t 2), (RX.t 3)]⟩ := by kernel_rfl
theorem okf55 : f55.ok = true := by kernel_rfl
def f56r1 : List AI := [⟨none, (.build 40 [(.bool false), (.int .i64 0)] [(0, (1, (.v (.k (.c (.bool true))))))])⟩, ⟨none, (.store 2 (.t 4) (.t 40))⟩]
def f56b2 : AQ := (.seq (.region f56r1) .ret)
def f56r3 : List AI := [⟨none, (.build 39 [(.bool false), (.int .i64 0)] [(0, (1, (.v (.k (.c (.bool true)))))), (1, (1, (.v (.k (.c (.int .i64 1))))))])⟩, ⟨none, (.store 2 (.t 4) (.t 39))⟩]
def f56b4 : AQ := (.seq (.region f56r3) .ret)
def f56b5 : AQ := (.cond (.t 38) f56b4 .skip)
def f56r6 : List AI := [⟨none, (.faddr 36 1 (.t 5))⟩, ⟨none, (.load 37 1 false (.t 36))⟩, ⟨none, (.bin 38 .neq (.t 37) (.v (.k (.c (.int .i64 0)))))⟩]
def f56b7 : AQ := (.seq (.region f56r6) f56b5)
def f56b8 : AQ := (.seq f56b7 f56b2)
def f56r9 : List AI := [⟨none, (.faddr 32 1 (.t 5))⟩, ⟨none, (.load 33 1 false (.t 32))⟩, ⟨none, (.call (some 34) 72 [(.t 33)])⟩, ⟨none, (.build 35 [(.bool false), (.int .i64 0)] [(0, (1, (.v (.k (.c (.bool true)))))), (1, (1, (.t 34)))])⟩, ⟨none, (.store 2 (.t 4) (.t 35))⟩]
def f56b10 : AQ := (.seq (.region f56r9) .ret)
def f56b11 : AQ := (.cond (.t 31) f56b10 .skip)
def f56r12 : List AI := [⟨none, (.mov 30 (.t 6))⟩, ⟨none, (.bin 31 .eql (.t 30) (.v (.k (.c (.int .i64 0)))))⟩]
def f56b13 : AQ := (.seq (.region f56r12) f56b11)
def f56b14 : AQ := (.seq f56b13 f56b8)
def f56r15 : List AI := [⟨none, (.mov 26 (.t 0))⟩, ⟨none, (.call (some 27) 71 [(.t 26)])⟩, ⟨none, (.mov 25 (.t 27))⟩, ⟨none, (.extr 28 (.t 25) 0)⟩, ⟨none, (.extr 29 (.t 25) 1)⟩, ⟨none, (.mov 6 (.t 28))⟩, ⟨none, (.mov 7 (.t 29))⟩]
def f56b16 : AQ := (.seq (.region f56r15) f56b14)
def f56r17 : List AI := [⟨none, (.build 24 [(.bool false), (.int .i64 0)] [])⟩, ⟨none, (.store 2 (.t 4) (.t 24))⟩]
def f56b18 : AQ := (.seq (.region f56r17) .ret)
def f56b19 : AQ := (.cond (.t 23) f56b18 .skip)
def f56r20 : List AI := [⟨none, (.faddr 21 0 (.t 5))⟩, ⟨none, (.load 22 1 false (.t 21))⟩, ⟨none, (.un 23 .not (.t 22))⟩]
def f56b21 : AQ := (.seq (.region f56r20) f56b19)
def f56b22 : AQ := (.seq f56b21 f56b16)
def f56r23 : List AI := [⟨none, (.mov 17 (.t 1))⟩, ⟨none, (.mov 18 (.t 0))⟩, ⟨none, (.iaddr 19 2 (.t 17) (.t 18))⟩, ⟨none, (.load 20 2 true (.t 19))⟩, ⟨none, (.alloc 5 30 [(.bool false), (.int .i64 0)])⟩, ⟨none, (.store 2 (.t 5) (.t 20))⟩]
def f56b24 : AQ := (.seq (.region f56r23) f56b22)
def f56r25 : List AI := [⟨none, (.build 16 [(.bool false), (.int .i64 0)] [])⟩, ⟨none, (.store 2 (.t 4) (.t 16))⟩]
def f56b26 : AQ := (.seq (.region f56r25) .ret)
def f56b27 : AQ := (.cond (.t 15) f56b26 .skip)
def f56r28 : List AI := [⟨none, (.mov 8 (.t 0))⟩, ⟨none, (.bin 9 .lss (.t 8) (.v (.k (.c (.int .i64 0)))))⟩, ⟨none, (.mov 10 (.t 9))⟩, ⟨(some (10, false)), (.mov 11 (.t 0))⟩, ⟨(some (10, false)), (.mov 12 (.t 1))⟩, ⟨(some (10, false)), (.len 13 (.t 12))⟩, ⟨(some (10, false)), (.bin 14 .geq (.t 11) (.t 13))⟩, ⟨none, (.pick 15 (.t 10) (.v (.k (.c (.bool true)))) (.t 14))⟩]
def f56b29 : AQ := (.seq (.region f56r28) f56b27)
def f56b30 : AQ := (.seq f56b29 f56b24)
def f56r31 : List AI := [⟨none, (.alloc 4 30 [(.bool false), (.int .i64 0)])⟩]
def f56b32 : AQ := (.seq (.region f56r31) f56b30)
def f56 : AQ := f56b32
theorem hf56 : cFunc Tryd.prog 56 = some ⟨41, f56.erase, [(RX.cell 4 2 true)]⟩ := by kernel_rfl
theorem okf56 : f56.ok = true := by kernel_rfl
def f57r1 : List AI := [⟨none, (.build 36 [(.bool false), (.int .i64 0)] [])⟩, ⟨none, (.store 2 (.t 6) (.t 36))⟩]
def f57b2 : AQ := (.seq (.region f57r1) .ret)
def f57r3 : List AI := [⟨none, (.mov 33 (.t 2))⟩, ⟨none, (.bin 34 .sub (.v (.k (.c (.int .i64 1)))) (.t 33))⟩, ⟨none, (.build 35 [(.bool false), (.int .i64 0)] [(0, (1, (.v (.k (.c (.bool true)))))), (1, (1, (.t 34)))])⟩, ⟨none, (.store 2 (.t 6) (.t 35))⟩]
def f57b4 : AQ := (.seq (.region f57r3) .ret)
def f57b5 : AQ := (.cond (.t 32) f57b4 .skip)
def f57r6 : List AI := [⟨none, (.faddr 27 0 (.t 3))⟩, ⟨none, (.load 28 1 false (.t 27))⟩, ⟨none, (.mov 29 (.t 28))⟩, ⟨(some (29, true)), (.faddr 30 0 (.t 4))⟩, ⟨(some (29, true)), (.load 31 1 false (.t 30))⟩, ⟨none, (.pick 32 (.t 29) (.t 31) (.v (.k (.c (.bool false)))))⟩]
def f57b7 : AQ := (.seq (.region f57r6) f57b5)
def f57b8 : AQ := (.seq f57b7 f57b2)
def f57r9 : List AI := [⟨none, (.mov 25 (.t 2))⟩, ⟨none, (.build 26 [(.bool false), (.int .i64 0)] [(0, (1, (.v (.k (.c (.bool true)))))), (1, (1, (.t 25)))])⟩, ⟨none, (.store 2 (.t 6) (.t 26))⟩]
def f57b10 : AQ := (.seq (.region f57r9) .ret)
def f57b11 : AQ := (.cond (.t 24) f57b10 .skip)
def f57r12 : List AI := [⟨none, (.faddr 7 0 (.t 3))⟩, ⟨none, (.load 8 1 false (.t 7))⟩, ⟨none, (.mov 9 (.t 8))⟩, ⟨(some (9, true)), (.faddr 10 1 (.t 3))⟩, ⟨(some (9, true)), (.load 11 1 false (.t 10))⟩, ⟨(some (9, true)), (.mov 12 (.t 2))⟩, ⟨(some (9, true)), (.bin 13 .eql (.t 11) (.t 12))⟩, ⟨none, (.pick 14 (.t 9) (.t 13) (.v (.k (.c (.bool false)))))⟩, ⟨none, (.mov 15 (.t 14))⟩, ⟨(some (15, false)), (.faddr 16 0 (.t 4))⟩, ⟨(some (15, false)), (.load 17 1 false (.t 16))⟩, ⟨(some (15, false)), (.mov 18 (.t 17))⟩, ⟨(some (18, true)), (.faddr 19 1 (.t 4))⟩, ⟨(some (18, true)), (.load 20 1 false (.t 19))⟩, ⟨(some (18, true)), (.mov 21 (.t 2))⟩, ⟨(some (18, true)), (.bin 22 .eql (.t 20) (.t 21))⟩, ⟨(some (15, false)), (.pick 23 (.t 18) (.t 22) (.v (.k (.c (.bool false)))))⟩, ⟨none, (.pick 24 (.t 15) (.v (.k (.c (.bool true)))) (.t 23))⟩]
def f57b13 : AQ := (.seq (.region f57r12) f57b11)
def f57b14 : AQ := (.seq f57b13 f57b8)
def f57r15 : List AI := [⟨none, (.box 3 30 (.t 0))⟩, ⟨none, (.box 4 30 (.t 1))⟩, ⟨none, (.alloc 6 30 [(.bool false), (.int .i64 0)])⟩]
def f57b16 : AQ := (.seq (.region f57r15) f57b14)
def f57 : AQ := f57b16
theorem hf57 : cFunc Tryd.prog 57 = some ⟨37, f57.erase, [(RX.cell 6 2 true)]⟩ := by kernel_rfl
theorem okf57 : f57.ok = true := by kernel_rfl
def f58r1 : List AI := [⟨none, (.mov 46 (.t 1))⟩, ⟨none, (.mov 47 (.t 2))⟩, ⟨none, (.minmax 48 true (.t 46) [(.t 47)])⟩, ⟨none, (.build 49 [(.bool false), (.int .i64 0)] [(0, (1, (.v (.k (.c (.bool true)))))), (1, (1, (.t 48)))])⟩, ⟨none, (.store 2 (.t 6) (.t 49))⟩]
def f58b2 : AQ := (.seq (.region f58r1) .ret)
def f58r3 : List AI := [⟨none, (.mov 10 (.t 1))⟩, ⟨none, (.mov 11 (.t 2))⟩, ⟨none, (.bin 12 .lss (.t 10) (.t 11))⟩, ⟨none, (.call (some 13) 73 [(.t 12)])⟩, ⟨none, (.store 2 (.t 6) (.t 13))⟩]
def f58b4 : AQ := (.seq (.region f58r3) .ret)
def f58r5 : List AI := [⟨none, (.mov 16 (.t 1))⟩, ⟨none, (.mov 17 (.t 2))⟩, ⟨none, (.bin 18 .eql (.t 16) (.t 17))⟩, ⟨none, (.call (some 19) 73 [(.t 18)])⟩, ⟨none, (.store 2 (.t 6) (.t 19))⟩]
def f58b6 : AQ := (.seq (.region f58r5) .ret)
def f58r7 : List AI := [⟨none, (.mov 22 (.t 1))⟩, ⟨none, (.mov 23 (.t 2))⟩, ⟨none, (.bin 24 .add (.t 22) (.t 23))⟩, ⟨none, (.call (some 25) 72 [(.t 24)])⟩, ⟨none, (.build 26 [(.bool false), (.int .i64 0)] [(0, (1, (.v (.k (.c (.bool true)))))), (1, (1, (.t 25)))])⟩, ⟨none, (.store 2 (.t 6) (.t 26))⟩]
def f58b8 : AQ := (.seq (.region f58r7) .ret)
def f58r9 : List AI := [⟨none, (.mov 29 (.t 1))⟩, ⟨none, (.mov 30 (.t 2))⟩, ⟨none, (.bin 31 .sub (.t 29) (.t 30))⟩, ⟨none, (.call (some 32) 72 [(.t 31)])⟩, ⟨none, (.build 33 [(.bool false), (.int .i64 0)] [(0, (1, (.v (.k (.c (.bool true)))))), (1, (1, (.t 32)))])⟩, ⟨none, (.store 2 (.t 6) (.t 33))⟩]
def f58b10 : AQ := (.seq (.region f58r9) .ret)
def f58r11 : List AI := [⟨none, (.mov 36 (.t 1))⟩, ⟨none, (.mov 37 (.t 2))⟩, ⟨none, (.call (some 38) 74 [(.t 36), (.t 37)])⟩, ⟨none, (.build 39 [(.bool false), (.int .i64 0)] [(0, (1, (.v (.k (.c (.bool true)))))), (1, (1, (.t 38)))])⟩, ⟨none, (.store 2 (.t 6) (.t 39))⟩]
def f58b12 : AQ := (.seq (.region f58r11) .ret)
def f58r13 : List AI := [⟨none, (.mov 42 (.t 1))⟩, ⟨none, (.mov 43 (.t 2))⟩, ⟨none, (.minmax 44 false (.t 42) [(.t 43)])⟩, ⟨none, (.build 45 [(.bool false), (.int .i64 0)] [(0, (1, (.v (.k (.c (.bool true)))))), (1, (1, (.t 44)))])⟩, ⟨none, (.store 2 (.t 6) (.t 45))⟩]
def f58b14 : AQ := (.seq (.region f58r13) .ret)
def f58b15 : AQ := (.cond (.t 40) f58b14 .skip)
def f58r16 : List AI := [⟨none, (.bin 41 .eql (.t 7) (.v (.k (.c (.int .i64 12)))))⟩, ⟨none, (.mov 40 (.t 41))⟩]
def f58b17 : AQ := (.seq (.region f58r16) f58b15)
def f58b18 : AQ := (.cond (.t 34) f58b12 f58b17)
def f58r19 : List AI := [⟨none, (.bin 35 .eql (.t 7) (.v (.k (.c (.int .i64 11)))))⟩, ⟨none, (.mov 34 (.t 35))⟩]
def f58b20 : AQ := (.seq (.region f58r19) f58b18)
def f58b21 : AQ := (.cond (.t 27) f58b10 f58b20)
def f58r22 : List AI := [⟨none, (.bin 28 .eql (.t 7) (.v (.k (.c (.int .i64 10)))))⟩, ⟨none, (.mov 27 (.t 28))⟩]
def f58b23 : AQ := (.seq (.region f58r22) f58b21)
def f58b24 : AQ := (.cond (.t 20) f58b8 f58b23)
def f58r25 : List AI := [⟨none, (.bin 21 .eql (.t 7) (.v (.k (.c (.int .i64 9)))))⟩, ⟨none, (.mov 20 (.t 21))⟩]
def f58b26 : AQ := (.seq (.region f58r25) f58b24)
def f58b27 : AQ := (.cond (.t 14) f58b6 f58b26)
def f58r28 : List AI := [⟨none, (.bin 15 .eql (.t 7) (.v (.k (.c (.int .i64 8)))))⟩, ⟨none, (.mov 14 (.t 15))⟩]
def f58b29 : AQ := (.seq (.region f58r28) f58b27)
def f58b30 : AQ := (.cond (.t 8) f58b4 f58b29)
def f58r31 : List AI := [⟨none, (.bin 9 .eql (.t 7) (.v (.k (.c (.int .i64 7)))))⟩, ⟨none, (.mov 8 (.t 9))⟩]
def f58b32 : AQ := (.seq (.region f58r31) f58b30)
def f58b33 : AQ := (.block 0 f58b32)
def f58r34 : List AI := [⟨none, (.mov 7 (.t 0))⟩]
def f58b35 : AQ := (.seq (.region f58r34) f58b33)
def f58b36 : AQ := (.seq f58b35 f58b2)
def f58r37 : List AI := [⟨none, (.alloc 6 30 [(.bool false), (.int .i64 0)])⟩]
def f58b38 : AQ := (.seq (.region f58r37) f58b36)
def f58 : AQ := f58b38
theorem hf58 : cFunc Tryd.prog 58 = some ⟨50, f58.erase, [(RX.cell 6 2 true)]⟩ := by kernel_rfl
theorem okf58 : f58.ok = true := by kernel_rfl
def f61r1 : List AI := [⟨none, (.mov 38 (.t 4))⟩, ⟨none, (.mov 2 (.t 38))⟩, ⟨none, (.mov 3 (.v (.k (.c (.int .i64 0)))))⟩]
def f61b2 : AQ := (.seq (.region f61r1) .ret)
def f61r3 : List AI := [⟨none, (.mov 2 (.v (.k (.c (.int .i64 0)))))⟩, ⟨none, (.mov 3 (.v (.k (.c (.int .i64 10)))))⟩]
def f61b4 : AQ := (.seq (.region f61r3) .ret)
def f61b5 : AQ := (.cond (.t 37) f61b4 .skip)
def f61r6 : List AI := [⟨none, (.mov 36 (.t 5))⟩, ⟨none, (.un 37 .not (.t 36))⟩]
def f61b7 : AQ := (.seq (.region f61r6) f61b5)
def f61b8 : AQ := (.seq f61b7 f61b2)
def f61r9 : List AI := [⟨none, (.faddr 31 1 (.t 1))⟩, ⟨none, (.load 32 1 false (.t 31))⟩, ⟨none, (.call (some 33) 63 [(.t 32)])⟩, ⟨none, (.mov 30 (.t 33))⟩, ⟨none, (.extr 34 (.t 30) 0)⟩, ⟨none, (.extr 35 (.t 30) 1)⟩, ⟨none, (.mov 4 (.t 34))⟩, ⟨none, (.mov 5 (.t 35))⟩]
def f61b10 : AQ := (.seq (.region f61r9) f61b8)
def f61r11 : List AI := [⟨none, (.mov 2 (.v (.k (.c (.int .i64 0)))))⟩, ⟨none, (.mov 3 (.v (.k (.c (.int .i64 0)))))⟩]
def f61b12 : AQ := (.seq (.region f61r11) .ret)
def f61r13 : List AI := [⟨none, (.mov 2 (.v (.k (.c (.int .i64 0)))))⟩, ⟨none, (.mov 3 (.v (.k (.c (.int .i64 3)))))⟩]
def f61b14 : AQ := (.seq (.region f61r13) .ret)
def f61b15 : AQ := (.cond (.t 19) f61b14 .skip)
def f61r16 : List AI := [⟨none, (.faddr 14 1 (.t 1))⟩, ⟨none, (.load 15 1 false (.t 14))⟩, ⟨none, (.call (some 16) 65 [(.t 15)])⟩, ⟨none, (.faddr 17 1 (.t 1))⟩, ⟨none, (.load 18 1 false (.t 17))⟩, ⟨none, (.bin 19 .neq (.t 16) (.t 18))⟩]
def f61b17 : AQ := (.seq (.draw f61r16 [[], [0], [1], [], [3], [2, 4]]) f61b15)
def f61b18 : AQ := (.seq f61b17 f61b12)
def f61r19 : List AI := [⟨none, (.mov 2 (.v (.k (.c (.int .i64 1)))))⟩, ⟨none, (.mov 3 (.v (.k (.c (.int .i64 0)))))⟩]
def f61b20 : AQ := (.seq (.region f61r19) .ret)
def f61r21 : List AI := [⟨none, (.mov 2 (.v (.k (.c (.int .i64 0)))))⟩, ⟨none, (.mov 3 (.v (.k (.c (.int .i64 3)))))⟩]
def f61b22 : AQ := (.seq (.region f61r21) .ret)
def f61b23 : AQ := (.cond (.t 29) f61b22 .skip)
def f61r24 : List AI := [⟨none, (.faddr 22 1 (.t 1))⟩, ⟨none, (.load 23 1 false (.t 22))⟩, ⟨none, (.bin 24 .lss (.t 23) (.v (.k (.c (.int .i64 0)))))⟩, ⟨none, (.mov 25 (.t 24))⟩, ⟨(some (25, false)), (.faddr 26 1 (.t 1))⟩, ⟨(some (25, false)), (.load 27 1 false (.t 26))⟩, ⟨(some (25, false)), (.bin 28 .gtr (.t 27) (.v (.k (.c (.int .i64 1)))))⟩, ⟨none, (.pick 29 (.t 25) (.v (.k (.c (.bool true)))) (.t 28))⟩]
def f61b25 : AQ := (.seq (.region f61r24) f61b23)
def f61b26 : AQ := (.seq f61b25 f61b20)
def f61b27 : AQ := (.cond (.t 20) f61b26 .skip)
def f61r28 : List AI := [⟨none, (.bin 21 .eql (.t 11) (.v (.k (.c (.int .i64 1)))))⟩, ⟨none, (.mov 20 (.t 21))⟩]
def f61b29 : AQ := (.seq (.region f61r28) f61b27)
def f61b30 : AQ := (.cond (.t 12) f61b18 f61b29)
def f61r31 : List AI := [⟨none, (.bin 13 .eql (.t 11) (.v (.k (.c (.int .i64 0)))))⟩, ⟨none, (.mov 12 (.t 13))⟩]
def f61b32 : AQ := (.seq (.region f61r31) f61b30)
def f61b33 : AQ := (.block 0 f61b32)
def f61r34 : List AI := [⟨none, (.faddr 10 0 (.t 1))⟩, ⟨none, (.load 11 1 false (.t 10))⟩]
def f61b35 : AQ := (.seq (.region f61r34) f61b33)
def f61b36 : AQ := (.seq f61b35 f61b10)
def f61r37 : List AI := [⟨none, (.mov 2 (.v (.k (.c (.int .i64 0)))))⟩, ⟨none, (.mov 3 (.v (.k (.c (.int .i64 2)))))⟩]
def f61b38 : AQ := (.seq (.region f61r37) .ret)
def f61b39 : AQ := (.cond (.t 9) f61b38 .skip)
def f61r40 : List AI := [⟨none, (.faddr 6 2 (.t 1))⟩, ⟨none, (.load 7 1 false (.t 6))⟩, ⟨none, (.len 8 (.t 7))⟩, ⟨none, (.bin 9 .gtr (.t 8) (.v (.k (.c (.int .i64 0)))))⟩]
def f61b41 : AQ := (.seq (.region f61r40) f61b39)
def f61b42 : AQ := (.seq f61b41 f61b36)
def f61r43 : List AI := [⟨none, (.box 1 50 (.t 0))⟩, ⟨none, (.mov 2 (.v (.k (.c (.int .i64 0)))))⟩, ⟨none, (.mov 3 (.v (.k (.c (.int .i64 0)))))⟩]
def f61b44 : AQ := (.seq (.region f61r43) f61b42)
def f61 : AQ := f61b44
theorem hf61 : cFunc Tryd.prog 61 = some ⟨39, f61.erase, [(RX.t 2), (RX.t 3)]⟩ := by kernel_rfl
theorem okf61 : f61.ok = true := by kernel_rfl
def f62r1 : List AI := [⟨none, (.bslice 25 3 1 [(.int .i64 0)] 2 [(0, (.v (.k (.c (.int .i64 0))))), (1, (.v (.k (.c (.int .i64 0)))))])⟩, ⟨none, (.build 26 [(.list 0 (some true) []), (.int .i64 0)] [(0, (1, (.t 25))), (1, (1, (.v (.k (.c (.int .i64 0))))))])⟩, ⟨none, (.store 2 (.t 2) (.t 26))⟩]
def f62b2 : AQ := (.seq (.region f62r1) .ret)
def f62r3 : List AI := [⟨none, (.bslice 6 3 1 [(.int .i64 0)] 1 [(0, (.v (.k (.c (.int .i64 1)))))])⟩, ⟨none, (.build 7 [(.list 0 (some true) []), (.int .i64 0)] [(0, (1, (.t 6))), (1, (1, (.v (.k (.c (.int .i64 1))))))])⟩, ⟨none, (.store 2 (.t 2) (.t 7))⟩]
def f62b4 : AQ := (.seq (.region f62r3) .ret)
def f62r5 : List AI := [⟨none, (.bslice 11 3 1 [(.int .i64 0)] 2 [(0, (.v (.k (.c (.int .i64 1))))), (1, (.v (.k (.c (.int .i64 1)))))])⟩, ⟨none, (.build 12 [(.list 0 (some true) []), (.int .i64 0)] [(0, (1, (.t 11))), (1, (1, (.v (.k (.c (.int .i64 1))))))])⟩, ⟨none, (.store 2 (.t 2) (.t 12))⟩]
def f62b6 : AQ := (.seq (.region f62r5) .ret)
def f62r7 : List AI := [⟨none, (.bslice 15 3 1 [(.int .i64 0)] 3 [(0, (.v (.k (.c (.int .i64 1))))), (1, (.v (.k (.c (.int .i64 (-1)))))), (2, (.v (.k (.c (.int .i64 (-1))))))])⟩, (AI.mk none (.build 16 [(.list 0 (some true) []), (.int .i64 0)] [(0, (1, (.t 15))), (1, (1, (.v (.k (.c (.int .i64 (-1)))))))])), ⟨none, (.store 2 (.t 2) (.t 16))⟩]
def f62b8 : AQ := (.seq (.region f62r7) .ret)
def f62r9 : List AI := [⟨none, (.bslice 19 3 1 [(.int .i64 0)] 2 [(0, (.v (.k (.c (.int .i64 0))))), (1, (.v (.k (.c (.int .i64 0)))))])⟩, ⟨none, (.build 20 [(.list 0 (some true) []), (.int .i64 0)] [(0, (1, (.t 19))), (1, (1, (.v (.k (.c (.int .i64 1))))))])⟩, ⟨none, (.store 2 (.t 2) (.t 20))⟩]
def f62b10 : AQ := (.seq (.region f62r9) .ret)
def f62r11 : List AI := [⟨none, (.bslice 23 3 1 [(.int .i64 0)] 2 [(0, (.v (.k (.c (.int .i64 (-1)))))), (1, (.v (.k (.c (.int .i64 (-1))))))])⟩, ⟨none, (.build 24 [(.list 0 (some true) []), (.int .i64 0)] [(0, (1, (.t 23))), (1, (1, (.v (.k (.c (.int .i64 1))))))])⟩, ⟨none, (.store 2 (.t 2) (.t 24))⟩]
def f62b12 : AQ := (.seq (.region f62r11) .ret)
def f62b13 : AQ := (.cond (.t 21) f62b12 .skip)
def f62r14 : List AI := [⟨none, (.bin 22 .eql (.t 3) (.v (.k (.c (.int .i64 8)))))⟩, ⟨none, (.mov 21 (.t 22))⟩]
def f62b15 : AQ := (.seq (.region f62r14) f62b13)
def f62b16 : AQ := (.cond (.t 17) f62b10 f62b15)
def f62r17 : List AI := [⟨none, (.bin 18 .eql (.t 3) (.v (.k (.c (.int .i64 7)))))⟩, ⟨none, (.mov 17 (.t 18))⟩]
def f62b18 : AQ := (.seq (.region f62r17) f62b16)
def f62b19 : AQ := (.cond (.t 13) f62b8 f62b18)
def f62r20 : List AI := [⟨none, (.bin 14 .eql (.t 3) (.v (.k (.c (.int .i64 6)))))⟩, ⟨none, (.mov 13 (.t 14))⟩]
def f62b21 : AQ := (.seq (.region f62r20) f62b19)
def f62b22 : AQ := (.cond (.t 8) f62b6 f62b21)
def f62r23 : List AI := [⟨none, (.bin 10 .eql (.t 3) (.v (.k (.c (.int .i64 5)))))⟩, ⟨none, (.mov 8 (.t 10))⟩]
def f62b24 : AQ := (.cond (.t 8) .skip (.region f62r23))
def f62r25 : List AI := [⟨none, (.bin 9 .eql (.t 3) (.v (.k (.c (.int .i64 4)))))⟩, ⟨none, (.mov 8 (.t 9))⟩]
def f62b26 : AQ := (.seq (.region f62r25) f62b24)
def f62b27 : AQ := (.seq f62b26 f62b22)
def f62b28 : AQ := (.cond (.t 4) f62b4 f62b27)
def f62r29 : List AI := [⟨none, (.bin 5 .eql (.t 3) (.v (.k (.c (.int .i64 3)))))⟩, ⟨none, (.mov 4 (.t 5))⟩]
def f62b30 : AQ := (.seq (.region f62r29) f62b28)
def f62b31 : AQ := (.block 0 f62b30)
def f62r32 : List AI := [⟨none, (.mov 3 (.t 0))⟩]
def f62b33 : AQ := (.seq (.region f62r32) f62b31)
def f62b34 : AQ := (.seq f62b33 f62b2)
def f62r35 : List AI := [⟨none, (.alloc 2 93 [(.list 0 (some true) []), (.int .i64 0)])⟩]
def f62b36 : AQ := (.seq (.region f62r35) f62b34)
def f62 : AQ := f62b36
theorem hf62 : cFunc Tryd.prog 62 = some ⟨27, f62.erase, [(RX.cell 2 2 true)]⟩ := by kernel_rfl
theorem okf62 : f62.ok = true := by kernel_rfl
def f63r1 : List AI := [⟨none, (.mov 2 (.v (.k (.c (.int .i64 1)))))⟩, ⟨none, (.mov 3 (.v (.k (.c (.bool true)))))⟩]
def f63b2 : AQ := (.seq (.region f63r1) .ret)
def f63r3 : List AI := [⟨none, (.mov 2 (.v (.k (.c (.int .i64 0)))))⟩, ⟨none, (.mov 3 (.v (.k (.c (.bool false)))))⟩]
def f63b4 : AQ := (.seq (.region f63r3) .ret)
def f63r5 : List AI := [⟨none, (.mov 2 (.v (.k (.c (.int .i64 0)))))⟩, ⟨none, (.mov 3 (.v (.k (.c (.bool true)))))⟩]
def f63b6 : AQ := (.seq (.region f63r5) .ret)
def f63b7 : AQ := (.cond (.t 11) f63b6 .skip)
def f63r8 : List AI := [⟨none, (.mov 12 (.t 0))⟩, ⟨none, (.bin 13 .lss (.t 12) (.v (.k (.c (.int .i64 7)))))⟩, ⟨none, (.mov 11 (.t 13))⟩]
def f63b9 : AQ := (.seq (.region f63r8) f63b7)
def f63b10 : AQ := (.cond (.t 4) f63b4 f63b9)
def f63r11 : List AI := [⟨none, (.mov 5 (.t 0))⟩, ⟨none, (.bin 6 .lss (.t 5) (.v (.k (.c (.int .i64 0)))))⟩, ⟨none, (.mov 7 (.t 6))⟩, ⟨(some (7, false)), (.mov 8 (.t 0))⟩, ⟨(some (7, false)), (.bin 9 .gtr (.t 8) (.v (.k (.c (.int .i64 19)))))⟩, ⟨none, (.pick 10 (.t 7) (.v (.k (.c (.bool true)))) (.t 9))⟩, ⟨none, (.mov 4 (.t 10))⟩]
def f63b12 : AQ := (.seq (.region f63r11) f63b10)
def f63b13 : AQ := (.block 0 f63b12)
def f63b14 : AQ := (.seq f63b13 f63b2)
def f63r15 : List AI := [⟨none, (.mov 2 (.v (.k (.c (.int .i64 0)))))⟩, ⟨none, (.mov 3 (.v (.k (.c (.bool false)))))⟩]
def f63b16 : AQ := (.seq (.region f63r15) f63b14)
def f63 : AQ := f63b16
theorem hf63 : cFunc Tryd.prog 63 = some ⟨14, f63.erase, [(RX.t 2), (RX.t 3)]⟩ := by kernel_rfl
theorem okf63 : f63.ok = true := by kernel_rfl
def f64r1 : List AI := [⟨none, (.build 5 [(.bool false), (.int .i64 0)] [(0, (1, (.v (.k (.c (.bool true))))))])⟩, ⟨none, (.store 2 (.t 2) (.t 5))⟩]
def f64b2 : AQ := (.seq (.region f64r1) .ret)
def f64r3 : List AI := [⟨none, (.build 4 [(.bool false), (.int .i64 0)] [(0, (1, (.v (.k (.c (.bool true)))))), (1, (1, (.v (.k (.c (.int .i64 1))))))])⟩, ⟨none, (.store 2 (.t 2) (.t 4))⟩]
def f64b4 : AQ := (.seq (.region f64r3) .ret)
def f64b5 : AQ := (.cond (.t 3) f64b4 .skip)
def f64r6 : List AI := [⟨none, (.mov 3 (.t 0))⟩]
def f64b7 : AQ := (.seq (.region f64r6) f64b5)
def f64b8 : AQ := (.seq f64b7 f64b2)
def f64r9 : List AI := [⟨none, (.alloc 2 30 [(.bool false), (.int .i64 0)])⟩]
def f64b10 : AQ := (.seq (.region f64r9) f64b8)
def f64 : AQ := f64b10
theorem hf64 : cFunc Tryd.prog 64 = some ⟨6, f64.erase, [(RX.cell 2 2 true)]⟩ := by kernel_rfl
theorem okf64 : f64.ok = true := by kernel_rfl
def f65r1 : List AI := [⟨none, (.mov 3 (.t 0))⟩, ⟨none, (.minmax 4 true (.t 3) [(.v (.k (.c (.int .i64 (-1099511627776)))))])⟩, ⟨none, (.minmax 5 false (.t 4) [(.v (.k (.c (.int .i64 1099511627776))))])⟩, ⟨none, (.mov 2 (.t 5))⟩]
def f65b2 : AQ := (.seq (.region f65r1) .ret)
def f65r3 : List AI := [⟨none, (.mov 2 (.v (.k (.c (.int .i64 0)))))⟩]
def f65b4 : AQ := (.seq (.region f65r3) f65b2)
def f65 : AQ := f65b4
theorem hf65 : cFunc Tryd.prog 65 = some ⟨6, f65.erase, [(RX.t 2)]⟩ := by kernel_rfl
theorem okf65 : f65.ok = true := by kernel_rfl
def f66r1 : List AI := [⟨none, (.mov 30 (.t 1))⟩, ⟨none, (.mov 31 (.t 2))⟩, ⟨none, (.minmax 32 true (.t 30) [(.t 31)])⟩, ⟨none, (.mov 6 (.t 32))⟩]
def f66b2 : AQ := (.seq (.region f66r1) .ret)
def f66r3 : List AI := [⟨none, (.mov 10 (.t 1))⟩, ⟨none, (.mov 11 (.t 2))⟩, ⟨none, (.bin 12 .add (.t 10) (.t 11))⟩, ⟨none, (.call (some 13) 65 [(.t 12)])⟩, ⟨none, (.mov 6 (.t 13))⟩]
def f66b4 : AQ := (.seq (.region f66r3) .ret)
def f66r5 : List AI := [⟨none, (.mov 16 (.t 1))⟩, ⟨none, (.mov 17 (.t 2))⟩, ⟨none, (.bin 18 .sub (.t 16) (.t 17))⟩, ⟨none, (.call (some 19) 65 [(.t 18)])⟩, ⟨none, (.mov 6 (.t 19))⟩]
def f66b6 : AQ := (.seq (.region f66r5) .ret)
def f66r7 : List AI := [⟨none, (.mov 22 (.t 1))⟩, ⟨none, (.mov 23 (.t 2))⟩, ⟨none, (.call (some 24) 86 [(.t 22), (.t 23)])⟩, ⟨none, (.mov 6 (.t 24))⟩]
def f66b8 : AQ := (.seq (.region f66r7) .ret)
def f66r9 : List AI := [⟨none, (.mov 27 (.t 1))⟩, ⟨none, (.mov 28 (.t 2))⟩, ⟨none, (.minmax 29 false (.t 27) [(.t 28)])⟩, ⟨none, (.mov 6 (.t 29))⟩]
def f66b10 : AQ := (.seq (.region f66r9) .ret)
def f66b11 : AQ := (.cond (.t 25) f66b10 .skip)
def f66r12 : List AI := [⟨none, (.bin 26 .eql (.t 7) (.v (.k (.c (.int .i64 12)))))⟩, ⟨none, (.mov 25 (.t 26))⟩]
def f66b13 : AQ := (.seq (.region f66r12) f66b11)
def f66b14 : AQ := (.cond (.t 20) f66b8 f66b13)
def f66r15 : List AI := [⟨none, (.bin 21 .eql (.t 7) (.v (.k (.c (.int .i64 11)))))⟩, ⟨none, (.mov 20 (.t 21))⟩]
def f66b16 : AQ := (.seq (.region f66r15) f66b14)
def f66b17 : AQ := (.cond (.t 14) f66b6 f66b16)
def f66r18 : List AI := [⟨none, (.bin 15 .eql (.t 7) (.v (.k (.c (.int .i64 10)))))⟩, ⟨none, (.mov 14 (.t 15))⟩]
def f66b19 : AQ := (.seq (.region f66r18) f66b17)
def f66b20 : AQ := (.cond (.t 8) f66b4 f66b19)
def f66r21 : List AI := [⟨none, (.bin 9 .eql (.t 7) (.v (.k (.c (.int .i64 9)))))⟩, ⟨none, (.mov 8 (.t 9))⟩]
def f66b22 : AQ := (.seq (.region f66r21) f66b20)
def f66b23 : AQ := (.block 0 f66b22)
def f66r24 : List AI := [⟨none, (.mov 7 (.t 0))⟩]
def f66b25 : AQ := (.seq (.region f66r24) f66b23)
def f66b26 : AQ := (.seq f66b25 f66b2)
def f66r27 : List AI := [⟨none, (.mov 6 (.v (.k (.c (.int .i64 0)))))⟩]
def f66b28 : AQ := (.seq (.region f66r27) f66b26)
def f66 : AQ := f66b28
theorem hf66 : cFunc Tryd.prog 66 = some ⟨33, f66.erase, [(RX.t 6)]⟩ := by kernel_rfl
theorem okf66 : f66.ok = true := by kernel_rfl
def f68r1 : List AI := [⟨none, (.mov 2 (.v (.k (.c (.int .i64 2)))))⟩]
def f68b2 : AQ := (.seq (.region f68r1) .ret)
def f68r3 : List AI := [⟨none, (.mov 2 (.v (.k (.c (.int .i64 0)))))⟩]
def f68b4 : AQ := (.seq (.region f68r3) .ret)
def f68r5 : List AI := [⟨none, (.mov 2 (.v (.k (.c (.int .i64 1)))))⟩]
def f68b6 : AQ := (.seq (.region f68r5) .ret)
def f68r7 : List AI := [⟨none, (.mov 2 (.v (.k (.c (.int .i64 3)))))⟩]
def f68b8 : AQ := (.seq (.region f68r7) .ret)
def f68b9 : AQ := (.cond (.t 10) f68b8 .skip)
def f68r10 : List AI := [⟨none, (.bin 11 .eql (.t 3) (.v (.k (.c (.int .i64 6)))))⟩, ⟨none, (.mov 10 (.t 11))⟩]
def f68b11 : AQ := (.seq (.region f68r10) f68b9)
def f68b12 : AQ := (.cond (.t 8) f68b6 f68b11)
def f68r13 : List AI := [⟨none, (.bin 9 .eql (.t 3) (.v (.k (.c (.int .i64 3)))))⟩, ⟨none, (.mov 8 (.t 9))⟩]
def f68b14 : AQ := (.seq (.region f68r13) f68b12)
def f68b15 : AQ := (.cond (.t 4) f68b4 f68b14)
def f68r16 : List AI := [⟨none, (.bin 7 .eql (.t 3) (.v (.k (.c (.int .i64 2)))))⟩, ⟨none, (.mov 4 (.t 7))⟩]
def f68b17 : AQ := (.cond (.t 4) .skip (.region f68r16))
def f68r18 : List AI := [⟨none, (.bin 6 .eql (.t 3) (.v (.k (.c (.int .i64 1)))))⟩, ⟨none, (.mov 4 (.t 6))⟩]
def f68b19 : AQ := (.seq (.region f68r18) f68b17)
def f68b20 : AQ := (.cond (.t 4) .skip f68b19)
def f68r21 : List AI := [⟨none, (.bin 5 .eql (.t 3) (.v (.k (.c (.int .i64 0)))))⟩, ⟨none, (.mov 4 (.t 5))⟩]
def f68b22 : AQ := (.seq (.region f68r21) f68b20)
def f68b23 : AQ := (.seq f68b22 f68b15)
def f68b24 : AQ := (.block 0 f68b23)
def f68r25 : List AI := [⟨none, (.mov 3 (.t 0))⟩]
def f68b26 : AQ := (.seq (.region f68r25) f68b24)
def f68b27 : AQ := (.seq f68b26 f68b2)
def f68r28 : List AI := [⟨none, (.mov 2 (.v (.k (.c (.int .i64 0)))))⟩]
def f68b29 : AQ := (.seq (.region f68r28) f68b27)
def f68 : AQ := f68b29
theorem hf68 : cFunc Tryd.prog 68 = some ⟨12, f68.erase, [(RX.t 2)]⟩ := by kernel_rfl
theorem okf68 : f68.ok = true := by kernel_rfl
def f69r1 : List AI := [⟨none, (.mov 36 (.t 4))⟩, ⟨none, (.mov 2 (.t 36))⟩, ⟨none, (.mov 3 (.v (.k (.c (.int .i64 0)))))⟩]
def f69b2 : AQ := (.seq (.region f69r1) .ret)
def f69r3 : List AI := [⟨none, (.mov 2 (.v (.k (.c (.int .i64 0)))))⟩, ⟨none, (.mov 3 (.v (.k (.c (.int .i64 10)))))⟩]
def f69b4 : AQ := (.seq (.region f69r3) .ret)
def f69b5 : AQ := (.cond (.t 35) f69b4 .skip)
def f69r6 : List AI := [⟨none, (.mov 34 (.t 5))⟩, ⟨none, (.un 35 .not (.t 34))⟩]
def f69b7 : AQ := (.seq (.region f69r6) f69b5)
def f69b8 : AQ := (.seq f69b7 f69b2)
def f69r9 : List AI := [⟨none, (.faddr 29 1 (.t 1))⟩, ⟨none, (.load 30 1 false (.t 29))⟩, ⟨none, (.call (some 31) 71 [(.t 30)])⟩, ⟨none, (.mov 28 (.t 31))⟩, ⟨none, (.extr 32 (.t 28) 0)⟩, ⟨none, (.extr 33 (.t 28) 1)⟩, ⟨none, (.mov 4 (.t 32))⟩, ⟨none, (.mov 5 (.t 33))⟩]
def f69b10 : AQ := (.seq (.region f69r9) f69b8)
def f69r11 : List AI := [⟨none, (.mov 2 (.v (.k (.c (.int .i64 1)))))⟩, ⟨none, (.mov 3 (.v (.k (.c (.int .i64 0)))))⟩]
def f69b12 : AQ := (.seq (.region f69r11) .ret)
def f69r13 : List AI := [⟨none, (.mov 2 (.v (.k (.c (.int .i64 0)))))⟩, ⟨none, (.mov 3 (.v (.k (.c (.int .i64 3)))))⟩]
def f69b14 : AQ := (.seq (.region f69r13) .ret)
def f69b15 : AQ := (.cond (.t 27) f69b14 .skip)
def f69r16 : List AI := [⟨none, (.faddr 20 1 (.t 1))⟩, ⟨none, (.load 21 1 false (.t 20))⟩, ⟨none, (.bin 22 .neq (.t 21) (.v (.k (.c (.int .i64 0)))))⟩, ⟨none, (.mov 23 (.t 22))⟩, ⟨(some (23, true)), (.faddr 24 1 (.t 1))⟩, ⟨(some (23, true)), (.load 25 1 false (.t 24))⟩, ⟨(some (23, true)), (.bin 26 .neq (.t 25) (.v (.k (.c (.int .i64 1)))))⟩, ⟨none, (.pick 27 (.t 23) (.t 26) (.v (.k (.c (.bool false)))))⟩]
def f69b17 : AQ := (.seq (.region f69r16) f69b15)
def f69b18 : AQ := (.seq f69b17 f69b12)
def f69b19 : AQ := (.cond (.t 19) f69b18 .skip)
def f69r20 : List AI := [⟨none, (.faddr 17 0 (.t 1))⟩, ⟨none, (.load 18 1 false (.t 17))⟩, ⟨none, (.bin 19 .eql (.t 18) (.v (.k (.c (.int .i64 1)))))⟩]
def f69b21 : AQ := (.seq (.region f69r20) f69b19)
def f69b22 : AQ := (.seq f69b21 f69b10)
def f69r23 : List AI := [⟨none, (.mov 2 (.v (.k (.c (.int .i64 0)))))⟩, ⟨none, (.mov 3 (.v (.k (.c (.int .i64 0)))))⟩]
def f69b24 : AQ := (.seq (.region f69r23) .ret)
def f69r25 : List AI := [⟨none, (.mov 2 (.v (.k (.c (.int .i64 0)))))⟩, ⟨none, (.mov 3 (.v (.k (.c (.int .i64 3)))))⟩]
def f69b26 : AQ := (.seq (.region f69r25) .ret)
def f69b27 : AQ := (.cond (.t 16) f69b26 .skip)
def f69r28 : List AI := [⟨none, (.faddr 9 1 (.t 1))⟩, ⟨none, (.load 10 1 false (.t 9))⟩, ⟨none, (.bin 11 .lss (.t 10) (.v (.k (.c (.int .i64 (-1099511627776))))))⟩, ⟨none, (.mov 12 (.t 11))⟩, ⟨(some (12, false)), (.faddr 13 1 (.t 1))⟩, ⟨(some (12, false)), (.load 14 1 false (.t 13))⟩, ⟨(some (12, false)), (.bin 15 .gtr (.t 14) (.v (.k (.c (.int .i64 1099511627776)))))⟩, ⟨none, (.pick 16 (.t 12) (.v (.k (.c (.bool true)))) (.t 15))⟩]
def f69b29 : AQ := (.seq (.region f69r28) f69b27)
def f69b30 : AQ := (.seq f69b29 f69b24)
def f69b31 : AQ := (.cond (.t 8) f69b30 .skip)
def f69r32 : List AI := [⟨none, (.faddr 6 0 (.t 1))⟩, ⟨none, (.load 7 1 false (.t 6))⟩, ⟨none, (.bin 8 .eql (.t 7) (.v (.k (.c (.int .i64 0)))))⟩]
def f69b33 : AQ := (.seq (.region f69r32) f69b31)
def f69b34 : AQ := (.seq f69b33 f69b22)
def f69r35 : List AI := [⟨none, (.box 1 50 (.t 0))⟩, ⟨none, (.mov 2 (.v (.k (.c (.int .i64 0)))))⟩, ⟨none, (.mov 3 (.v (.k (.c (.int .i64 0)))))⟩]
def f69b36 : AQ := (.seq (.region f69r35) f69b34)
def f69 : AQ := f69b36
theorem hf69 : cFunc Tryd.prog 69 = some ⟨37, f69.erase, [(RX.t 2), (RX.t 3)]⟩ := by kernel_rfl
theorem okf69 : f69.ok = true := by kernel_rfl
def f70r1 : List AI := [⟨none, (.mov 65 (.t 1))⟩, ⟨none, (.iaddr 66 1 (.t 65) (.v (.k (.c (.int .i64 0)))))⟩, ⟨none, (.load 67 1 false (.t 66))⟩, ⟨none, (.bin 68 .eql (.t 67) (.v (.k (.c (.int .i64 0)))))⟩, ⟨none, (.mov 69 (.t 68))⟩, ⟨(some (69, true)), (.mov 70 (.t 1))⟩, ⟨(some (69, true)), (.iaddr 71 1 (.t 70) (.v (.k (.c (.int .i64 1)))))⟩, ⟨(some (69, true)), (.load 72 1 false (.t 71))⟩, ⟨(some (69, true)), (.bin 73 .eql (.t 72) (.v (.k (.c (.int .i64 0)))))⟩, ⟨none, (.pick 74 (.t 69) (.t 73) (.v (.k (.c (.bool false)))))⟩, ⟨none, (.mov 4 (.v (.k (.c (.int .i64 0)))))⟩, ⟨none, (.mov 5 (.t 74))⟩]
def f70b2 : AQ := (.seq (.draw f70r1 [[], [0], [1], [2], [3], [4], [5, 4], [6, 4], [7, 4], [4, 8], [4], [9, 10, 0, 1, 2, 3, 4, 5, 6, 7, 8, 9, 10]]) .ret)
def f70r3 : List AI := [⟨none, (.mov 9 (.t 1))⟩, ⟨none, (.iaddr 10 1 (.t 9) (.v (.k (.c (.int .i64 0)))))⟩, ⟨none, (.load 11 1 false (.t 10))⟩, ⟨none, (.bin 12 .eql (.t 11) (.v (.k (.c (.int .i64 1)))))⟩, ⟨none, (.mov 4 (.v (.k (.c (.int .i64 1)))))⟩, ⟨none, (.mov 5 (.t 12))⟩]
def f70b4 : AQ := (.seq (.draw f70r3 [[], [0], [1], [2], [], [3, 4, 0, 1, 2, 3, 4]]) .ret)
def f70r5 : List AI := [⟨none, (.mov 16 (.t 1))⟩, ⟨none, (.iaddr 17 1 (.t 16) (.v (.k (.c (.int .i64 0)))))⟩, ⟨none, (.load 18 1 false (.t 17))⟩, ⟨none, (.bin 19 .eql (.t 18) (.v (.k (.c (.int .i64 1)))))⟩, ⟨none, (.mov 20 (.t 19))⟩, ⟨(some (20, true)), (.mov 21 (.t 1))⟩, ⟨(some (20, true)), (.iaddr 22 1 (.t 21) (.v (.k (.c (.int .i64 1)))))⟩, ⟨(some (20, true)), (.load 23 1 false (.t 22))⟩, ⟨(some (20, true)), (.bin 24 .eql (.t 23) (.v (.k (.c (.int .i64 1)))))⟩, ⟨none, (.pick 25 (.t 20) (.t 24) (.v (.k (.c (.bool false)))))⟩, ⟨none, (.mov 4 (.v (.k (.c (.int .i64 1)))))⟩, ⟨none, (.mov 5 (.t 25))⟩]
def f70b6 : AQ := (.seq (.draw f70r5 [[], [0], [1], [2], [3], [4], [5, 4], [6, 4], [7, 4], [4, 8], [4], [9, 10, 0, 1, 2, 3, 4, 5, 6, 7, 8, 9, 10]]) .ret)
def f70r7 : List AI := [⟨none, (.mov 28 (.t 1))⟩, ⟨none, (.iaddr 29 1 (.t 28) (.v (.k (.c (.int .i64 1)))))⟩, ⟨none, (.load 30 1 false (.t 29))⟩, ⟨none, (.mov 31 (.t 1))⟩, ⟨none, (.iaddr 32 1 (.t 31) (.v (.k (.c (.int .i64 0)))))⟩, ⟨none, (.load 33 1 false (.t 32))⟩, ⟨none, (.bin 34 .eql (.t 33) (.v (.k (.c (.int .i64 1)))))⟩, ⟨none, (.mov 35 (.t 34))⟩, ⟨(some (35, true)), (.mov 36 (.t 1))⟩, ⟨(some (35, true)), (.iaddr 37 1 (.t 36) (.v (.k (.c (.int .i64 1)))))⟩, ⟨(some (35, true)), (.load 38 1 false (.t 37))⟩, ⟨(some (35, true)), (.mov 39 (.t 1))⟩, ⟨(some (35, true)), (.iaddr 40 1 (.t 39) (.v (.k (.c (.int .i64 2)))))⟩, ⟨(some (35, true)), (.load 41 1 false (.t 40))⟩, ⟨(some (35, true)), (.bin 42 .eql (.t 38) (.t 41))⟩, ⟨none, (.pick 43 (.t 35) (.t 42) (.v (.k (.c (.bool false)))))⟩, ⟨none, (.mov 4 (.t 30))⟩, ⟨none, (.mov 5 (.t 43))⟩]
def f70b8 : AQ := (.seq (.draw f70r7 [[], [0], [1], [], [3], [4], [5], [6], [7], [8, 7], [9, 7], [7], [11, 7], [12, 7], [10, 13, 7], [7, 14], [2, 7, 0, 1, 2], [15, 16, 0, 1, 2, 3, 4, 5, 6, 7, 8, 9, 10, 11, 12, 13, 14, 15, 16]]) .ret)
def f70r9 : List AI := [⟨none, (.mov 46 (.t 1))⟩, ⟨none, (.iaddr 47 1 (.t 46) (.v (.k (.c (.int .i64 0)))))⟩, ⟨none, (.load 48 1 false (.t 47))⟩, ⟨none, (.bin 49 .eql (.t 48) (.v (.k (.c (.int .i64 0)))))⟩, ⟨none, (.mov 50 (.t 49))⟩, ⟨(some (50, true)), (.mov 51 (.t 1))⟩, ⟨(some (50, true)), (.iaddr 52 1 (.t 51) (.v (.k (.c (.int .i64 1)))))⟩, ⟨(some (50, true)), (.load 53 1 false (.t 52))⟩, ⟨(some (50, true)), (.bin 54 .eql (.t 53) (.v (.k (.c (.int .i64 0)))))⟩, ⟨none, (.pick 55 (.t 50) (.t 54) (.v (.k (.c (.bool false)))))⟩, ⟨none, (.mov 4 (.v (.k (.c (.int .i64 1)))))⟩, ⟨none, (.mov 5 (.t 55))⟩]
def f70b10 : AQ := (.seq (.draw f70r9 [[], [0], [1], [2], [3], [4], [5, 4], [6, 4], [7, 4], [4, 8], [4], [9, 10, 0, 1, 2, 3, 4, 5, 6, 7, 8, 9, 10]]) .ret)
def f70r11 : List AI := [⟨none, (.mov 58 (.t 1))⟩, ⟨none, (.iaddr 59 1 (.t 58) (.v (.k (.c (.int .i64 0)))))⟩, ⟨none, (.load 60 1 false (.t 59))⟩, ⟨none, (.mov 61 (.t 1))⟩, ⟨none, (.iaddr 62 1 (.t 61) (.v (.k (.c (.int .i64 1)))))⟩, ⟨none, (.load 63 1 false (.t 62))⟩, ⟨none, (.bin 64 .eql (.t 60) (.t 63))⟩, ⟨none, (.mov 4 (.v (.k (.c (.int .i64 1)))))⟩, ⟨none, (.mov 5 (.t 64))⟩]
def f70b12 : AQ := (.seq (.draw f70r11 [[], [0], [1], [], [3], [4], [2, 5], [], [6, 7, 0, 1, 2, 3, 4, 5, 6, 7]]) .ret)
def f70b13 : AQ := (.cond (.t 56) f70b12 .skip)
def f70r14 : List AI := [⟨none, (.bin 57 .eql (.t 6) (.v (.k (.c (.int .i64 8)))))⟩, ⟨none, (.mov 56 (.t 57))⟩]
def f70b15 : AQ := (.seq (.region f70r14) f70b13)
def f70b16 : AQ := (.cond (.t 44) f70b10 f70b15)
def f70r17 : List AI := [⟨none, (.bin 45 .eql (.t 6) (.v (.k (.c (.int .i64 7)))))⟩, ⟨none, (.mov 44 (.t 45))⟩]
def f70b18 : AQ := (.seq (.region f70r17) f70b16)
def f70b19 : AQ := (.cond (.t 26) f70b8 f70b18)
def f70r20 : List AI := [⟨none, (.bin 27 .eql (.t 6) (.v (.k (.c (.int .i64 6)))))⟩, ⟨none, (.mov 26 (.t 27))⟩]
def f70b21 : AQ := (.seq (.region f70r20) f70b19)
def f70b22 : AQ := (.cond (.t 13) f70b6 f70b21)
def f70r23 : List AI := [⟨none, (.bin 15 .eql (.t 6) (.v (.k (.c (.int .i64 5)))))⟩, ⟨none, (.mov 13 (.t 15))⟩]
def f70b24 : AQ := (.cond (.t 13) .skip (.region f70r23))
def f70r25 : List AI := [⟨none, (.bin 14 .eql (.t 6) (.v (.k (.c (.int .i64 4)))))⟩, ⟨none, (.mov 13 (.t 14))⟩]
def f70b26 : AQ := (.seq (.region f70r25) f70b24)
def f70b27 : AQ := (.seq f70b26 f70b22)
def f70b28 : AQ := (.cond (.t 7) f70b4 f70b27)
def f70r29 : List AI := [⟨none, (.bin 8 .eql (.t 6) (.v (.k (.c (.int .i64 3)))))⟩, ⟨none, (.mov 7 (.t 8))⟩]
def f70b30 : AQ := (.seq (.region f70r29) f70b28)
def f70b31 : AQ := (.block 0 f70b30)
def f70r32 : List AI := [⟨none, (.mov 6 (.t 0))⟩]
def f70b33 : AQ := (.seq (.region f70r32) f70b31)
def f70b34 : AQ := (.seq f70b33 f70b2)
def f70r35 : List AI := [⟨none, (.mov 4 (.v (.k (.c (.int .i64 0)))))⟩, ⟨none, (.mov 5 (.v (.k (.c (.bool false)))))⟩]
def f70b36 : AQ := (.seq (.region f70r35) f70b34)
def f70 : AQ := f70b36
theorem hf70 : cFunc Tryd.prog 70 = some ⟨75, f70.erase, [(RX.t 4), (RX.t 5)]⟩ := by kernel_rfl
theorem okf70 : f70.ok = true := by kernel_rfl
def f71r1 : List AI := [⟨none, (.mov 2 (.v (.k (.c (.int .i64 1)))))⟩, ⟨none, (.mov 3 (.v (.k (.c (.bool true)))))⟩]
def f71b2 : AQ := (.seq (.region f71r1) .ret)
def f71r3 : List AI := [⟨none, (.mov 2 (.v (.k (.c (.int .i64 0)))))⟩, ⟨none, (.mov 3 (.v (.k (.c (.bool true)))))⟩]
def f71b4 : AQ := (.seq (.region f71r3) .ret)
def f71b5 : AQ := (.cond (.t 11) f71b4 .skip)
def f71r6 : List AI := [⟨none, (.mov 10 (.t 0))⟩, ⟨none, (.bin 11 .leq (.t 10) (.v (.k (.c (.int .i64 6)))))⟩]
def f71b7 : AQ := (.seq (.region f71r6) f71b5)
def f71b8 : AQ := (.seq f71b7 f71b2)
def f71r9 : List AI := [⟨none, (.mov 2 (.v (.k (.c (.int .i64 0)))))⟩, ⟨none, (.mov 3 (.v (.k (.c (.bool false)))))⟩]
def f71b10 : AQ := (.seq (.region f71r9) .ret)
def f71b11 : AQ := (.cond (.t 9) f71b10 .skip)
def f71r12 : List AI := [⟨none, (.mov 4 (.t 0))⟩, ⟨none, (.bin 5 .lss (.t 4) (.v (.k (.c (.int .i64 0)))))⟩, ⟨none, (.mov 6 (.t 5))⟩, ⟨(some (6, false)), (.mov 7 (.t 0))⟩, ⟨(some (6, false)), (.bin 8 .geq (.t 7) (.v (.k (.c (.int .i64 20)))))⟩, ⟨none, (.pick 9 (.t 6) (.v (.k (.c (.bool true)))) (.t 8))⟩]
def f71b13 : AQ := (.seq (.region f71r12) f71b11)
def f71b14 : AQ := (.seq f71b13 f71b8)
def f71r15 : List AI := [⟨none, (.mov 2 (.v (.k (.c (.int .i64 0)))))⟩, ⟨none, (.mov 3 (.v (.k (.c (.bool false)))))⟩]
def f71b16 : AQ := (.seq (.region f71r15) f71b14)
def f71 : AQ := f71b16
theorem hf71 : cFunc Tryd.prog 71 = some ⟨12, f71.erase, [(RX.t 2), (RX.t 3)]⟩ := by kernel_rfl
theorem okf71 : f71.ok = true := by kernel_rfl
def f72r1 : List AI := [⟨none, (.mov 3 (.t 0))⟩, ⟨none, (.minmax 4 false (.v (.k (.c (.int .i64 1099511627776)))) [(.t 3)])⟩, ⟨none, (.minmax 5 true (.v (.k (.c (.int .i64 (-1099511627776))))) [(.t 4)])⟩, ⟨none, (.mov 2 (.t 5))⟩]
def f72b2 : AQ := (.seq (.region f72r1) .ret)
def f72r3 : List AI := [⟨none, (.mov 2 (.v (.k (.c (.int .i64 0)))))⟩]
def f72b4 : AQ := (.seq (.region f72r3) f72b2)
def f72 : AQ := f72b4
theorem hf72 : cFunc Tryd.prog 72 = some ⟨6, f72.erase, [(RX.t 2)]⟩ := by kernel_rfl
theorem okf72 : f72.ok = true := by kernel_rfl
def f73r1 : List AI := [⟨none, (.build 5 [(.bool false), (.int .i64 0)] [(0, (1, (.v (.k (.c (.bool true))))))])⟩, ⟨none, (.store 2 (.t 2) (.t 5))⟩]
def f73b2 : AQ := (.seq (.region f73r1) .ret)
def f73r3 : List AI := [⟨none, (.build 4 [(.bool false), (.int .i64 0)] [(0, (1, (.v (.k (.c (.bool true)))))), (1, (1, (.v (.k (.c (.int .i64 1))))))])⟩, ⟨none, (.store 2 (.t 2) (.t 4))⟩]
def f73b4 : AQ := (.seq (.region f73r3) .ret)
def f73b5 : AQ := (.cond (.t 3) f73b4 .skip)
def f73r6 : List AI := [⟨none, (.mov 3 (.t 0))⟩]
def f73b7 : AQ := (.seq (.region f73r6) f73b5)
def f73b8 : AQ := (.seq f73b7 f73b2)
def f73r9 : List AI := [⟨none, (.alloc 2 30 [(.bool false), (.int .i64 0)])⟩]
def f73b10 : AQ := (.seq (.region f73r9) f73b8)
def f73 : AQ := f73b10
theorem hf73 : cFunc Tryd.prog 73 = some ⟨6, f73.erase, [(RX.cell 2 2 true)]⟩ := by kernel_rfl
theorem okf73 : f73.ok = true := by kernel_rfl
def f74r1 : List AI := [⟨none, (.mov 34 (.t 5))⟩, ⟨none, (.mov 35 (.t 6))⟩, ⟨none, (.bin 36 .mul (.t 34) (.t 35))⟩, ⟨none, (.mov 4 (.t 36))⟩]
def f74b2 : AQ := (.seq (.region f74r1) .ret)
def f74r3 : List AI := [⟨none, (.mov 30 (.t 5))⟩, ⟨none, (.un 31 .neg (.t 30))⟩, ⟨none, (.mov 32 (.t 6))⟩, ⟨none, (.bin 33 .mul (.t 31) (.t 32))⟩, ⟨none, (.mov 4 (.t 33))⟩]
def f74b4 : AQ := (.seq (.region f74r3) .ret)
def f74b5 : AQ := (.cond (.t 29) f74b4 .skip)
def f74r6 : List AI := [⟨none, (.mov 25 (.t 0))⟩, ⟨none, (.bin 26 .lss (.t 25) (.v (.k (.c (.int .i64 0)))))⟩, ⟨none, (.mov 27 (.t 1))⟩, ⟨none, (.bin 28 .lss (.t 27) (.v (.k (.c (.int .i64 0)))))⟩, ⟨none, (.binB 29 true (.t 26) (.t 28))⟩]
def f74b7 : AQ := (.seq (.region f74r6) f74b5)
def f74b8 : AQ := (.seq f74b7 f74b2)
def f74r9 : List AI := [⟨none, (.mov 6 (.v (.k (.c (.int .i64 1)))))⟩]
def f74r10 : List AI := [⟨none, (.mov 5 (.v (.k (.c (.int .i64 1099511627776)))))⟩]
def f74b11 : AQ := (.seq (.region f74r10) (.region f74r9))
def f74b12 : AQ := (.cond (.t 24) f74b11 .skip)
def f74r13 : List AI := [⟨none, (.mov 21 (.t 5))⟩, ⟨none, (.mov 22 (.t 6))⟩, ⟨none, (.bin 23 .quo (.v (.k (.c (.int .i64 1099511627776)))) (.t 22))⟩, ⟨none, (.bin 24 .gtr (.t 21) (.t 23))⟩]
def f74b14 : AQ := (.seq (.region f74r13) f74b12)
def f74b15 : AQ := (.seq f74b14 f74b8)
def f74r16 : List AI := [⟨none, (.mov 17 (.t 1))⟩, ⟨none, (.mov 18 (.t 1))⟩, ⟨none, (.un 19 .neg (.t 18))⟩, ⟨none, (.minmax 20 true (.t 17) [(.t 19)])⟩, ⟨none, (.mov 6 (.t 20))⟩]
def f74b17 : AQ := (.seq (.region f74r16) f74b15)
def f74r18 : List AI := [⟨none, (.mov 13 (.t 0))⟩, ⟨none, (.mov 14 (.t 0))⟩, ⟨none, (.un 15 .neg (.t 14))⟩, ⟨none, (.minmax 16 true (.t 13) [(.t 15)])⟩, ⟨none, (.mov 5 (.t 16))⟩]
def f74b19 : AQ := (.seq (.region f74r18) f74b17)
def f74r20 : List AI := [⟨none, (.mov 4 (.v (.k (.c (.int .i64 0)))))⟩]
def f74b21 : AQ := (.seq (.region f74r20) .ret)
def f74b22 : AQ := (.cond (.t 12) f74b21 .skip)
def f74r23 : List AI := [⟨none, (.mov 7 (.t 0))⟩, ⟨none, (.bin 8 .eql (.t 7) (.v (.k (.c (.int .i64 0)))))⟩, ⟨none, (.mov 9 (.t 8))⟩, ⟨(some (9, false)), (.mov 10 (.t 1))⟩, ⟨(some (9, false)), (.bin 11 .eql (.t 10) (.v (.k (.c (.int .i64 0)))))⟩, ⟨none, (.pick 12 (.t 9) (.v (.k (.c (.bool true)))) (.t 11))⟩]
def f74b24 : AQ := (.seq (.region f74r23) f74b22)
def f74b25 : AQ := (.seq f74b24 f74b19)
def f74r26 : List AI := [⟨none, (.mov 4 (.v (.k (.c (.int .i64 0)))))⟩]
def f74b27 : AQ := (.seq (.region f74r26) f74b25)
def f74 : AQ := f74b27
theorem hf74 : cFunc Tryd.prog 74 = some ⟨37, f74.erase, [(RX.t 4)]⟩ := by kernel_rfl
theorem okf74 : f74.ok = true := by kernel_rfl
def f86r1 : List AI := [⟨none, (.mov 37 (.t 7))⟩, ⟨none, (.mov 4 (.t 37))⟩]
def f86b2 : AQ := (.seq (.region f86r1) .ret)
def f86r3 : List AI := [⟨none, (.mov 35 (.t 7))⟩, ⟨none, (.un 36 .neg (.t 35))⟩, ⟨none, (.mov 4 (.t 36))⟩]
def f86b4 : AQ := (.seq (.region f86r3) .ret)
def f86b5 : AQ := (.cond (.t 34) f86b4 .skip)
def f86r6 : List AI := [⟨none, (.mov 30 (.t 0))⟩, ⟨none, (.bin 31 .lss (.t 30) (.v (.k (.c (.int .i64 0)))))⟩, ⟨none, (.mov 32 (.t 1))⟩, ⟨none, (.bin 33 .lss (.t 32) (.v (.k (.c (.int .i64 0)))))⟩, ⟨none, (.binB 34 true (.t 31) (.t 33))⟩]
def f86b7 : AQ := (.seq (.region f86r6) f86b5)
def f86b8 : AQ := (.seq f86b7 f86b2)
def f86r9 : List AI := [⟨none, (.mov 28 (.t 6))⟩, ⟨none, (.conv 29 .i64 (.t 28))⟩, ⟨none, (.mov 7 (.t 29))⟩]
def f86b10 : AQ := (.cond (.t 27) (.region f86r9) .skip)
def f86r11 : List AI := [⟨none, (.mov 22 (.t 5))⟩, ⟨none, (.bin 23 .eql (.t 22) (.v (.k (.c (.int .u64 0)))))⟩, ⟨none, (.mov 24 (.t 23))⟩, ⟨(some (24, true)), (.mov 25 (.t 6))⟩, ⟨(some (24, true)), (.bin 26 .lss (.t 25) (.v (.k (.c (.int .u64 1099511627776)))))⟩, ⟨none, (.pick 27 (.t 24) (.t 26) (.v (.k (.c (.bool false)))))⟩]
def f86b12 : AQ := (.seq (.region f86r11) f86b10)
def f86b13 : AQ := (.seq f86b12 f86b8)
def f86r14 : List AI := [⟨none, (.mov 7 (.v (.k (.c (.int .i64 1099511627776)))))⟩]
def f86b15 : AQ := (.seq (.region f86r14) f86b13)
def f86r16 : List AI := [⟨none, (.mov 9 (.t 0))⟩, ⟨none, (.mov 10 (.t 0))⟩, ⟨none, (.un 11 .neg (.t 10))⟩, ⟨none, (.minmax 12 true (.t 9) [(.t 11)])⟩, ⟨none, (.conv 13 .u64 (.t 12))⟩, ⟨none, (.mov 14 (.t 1))⟩, ⟨none, (.mov 15 (.t 1))⟩, ⟨none, (.un 16 .neg (.t 15))⟩, ⟨none, (.minmax 17 true (.t 14) [(.t 16)])⟩, ⟨none, (.conv 18 .u64 (.t 17))⟩, ⟨none, (.call (some 19) 93 [(.t 13), (.t 18)])⟩, ⟨none, (.mov 8 (.t 19))⟩, ⟨none, (.extr 20 (.t 8) 0)⟩, ⟨none, (.extr 21 (.t 8) 1)⟩, ⟨none, (.mov 5 (.t 20))⟩, ⟨none, (.mov 6 (.t 21))⟩]
def f86b17 : AQ := (.seq (.region f86r16) f86b15)
def f86r18 : List AI := [⟨none, (.mov 4 (.v (.k (.c (.int .i64 0)))))⟩]
def f86b19 : AQ := (.seq (.region f86r18) f86b17)
def f86 : AQ := f86b19
theorem hf86 : cFunc Tryd.prog 86 = some ⟨38, f86.erase, [(RX.t 4)]⟩ := by kernel_rfl
theorem okf86 : f86.ok = true := by kernel_rfl
def f93r1 : List AI := [⟨none, (.mov 48 (.t 0))⟩, ⟨none, (.mov 49 (.t 1))⟩, ⟨none, (.bin 50 .mul (.t 48) (.t 49))⟩, ⟨none, (.mov 5 (.t 50))⟩]
def f93b2 : AQ := (.seq (.region f93r1) .ret)
def f93r3 : List AI := [⟨none, (.mov 40 (.t 7))⟩, ⟨none, (.mov 41 (.t 9))⟩, ⟨none, (.bin 42 .mul (.t 40) (.t 41))⟩, ⟨none, (.mov 43 (.t 13))⟩, ⟨none, (.bin 44 .add (.t 42) (.t 43))⟩, ⟨none, (.mov 45 (.t 12))⟩, ⟨none, (.bin 46 .shr (.t 45) (.v (.k (.c (.int .u64 32)))))⟩, ⟨none, (.bin 47 .add (.t 44) (.t 46))⟩, ⟨none, (.mov 4 (.t 47))⟩]
def f93b4 : AQ := (.seq (.region f93r3) f93b2)
def f93r5 : List AI := [⟨none, (.mov 35 (.t 12))⟩, ⟨none, (.mov 36 (.t 6))⟩, ⟨none, (.mov 37 (.t 9))⟩, ⟨none, (.bin 38 .mul (.t 36) (.t 37))⟩, ⟨none, (.bin 39 .add (.t 35) (.t 38))⟩, ⟨none, (.mov 12 (.t 39))⟩]
def f93b6 : AQ := (.seq (.region f93r5) f93b4)
def f93r7 : List AI := [⟨none, (.mov 33 (.t 11))⟩, ⟨none, (.bin 34 .shr (.t 33) (.v (.k (.c (.int .u64 32)))))⟩, ⟨none, (.mov 13 (.t 34))⟩]
def f93b8 : AQ := (.seq (.region f93r7) f93b6)
def f93r9 : List AI := [⟨none, (.mov 31 (.t 11))⟩, ⟨none, (.bin 32 .and (.t 31) (.v (.k (.c (.int .u64 4294967295)))))⟩, ⟨none, (.mov 12 (.t 32))⟩]
def f93b10 : AQ := (.seq (.region f93r9) f93b8)
def f93r11 : List AI := [⟨none, (.mov 25 (.t 7))⟩, ⟨none, (.mov 26 (.t 8))⟩, ⟨none, (.bin 27 .mul (.t 25) (.t 26))⟩, ⟨none, (.mov 28 (.t 10))⟩, ⟨none, (.bin 29 .shr (.t 28) (.v (.k (.c (.int .u64 32)))))⟩, ⟨none, (.bin 30 .add (.t 27) (.t 29))⟩, ⟨none, (.mov 11 (.t 30))⟩]
def f93b12 : AQ := (.seq (.region f93r11) f93b10)
def f93r13 : List AI := [⟨none, (.mov 22 (.t 6))⟩, ⟨none, (.mov 23 (.t 8))⟩, ⟨none, (.bin 24 .mul (.t 22) (.t 23))⟩, ⟨none, (.mov 10 (.t 24))⟩]
def f93b14 : AQ := (.seq (.region f93r13) f93b12)
def f93r15 : List AI := [⟨none, (.mov 20 (.t 1))⟩, ⟨none, (.bin 21 .shr (.t 20) (.v (.k (.c (.int .u64 32)))))⟩, ⟨none, (.mov 9 (.t 21))⟩]
def f93b16 : AQ := (.seq (.region f93r15) f93b14)
def f93r17 : List AI := [⟨none, (.mov 18 (.t 1))⟩, ⟨none, (.bin 19 .and (.t 18) (.v (.k (.c (.int .u64 4294967295)))))⟩, ⟨none, (.mov 8 (.t 19))⟩]
def f93b18 : AQ := (.seq (.region f93r17) f93b16)
def f93r19 : List AI := [⟨none, (.mov 16 (.t 0))⟩, ⟨none, (.bin 17 .shr (.t 16) (.v (.k (.c (.int .u64 32)))))⟩, ⟨none, (.mov 7 (.t 17))⟩]
def f93b20 : AQ := (.seq (.region f93r19) f93b18)
def f93r21 : List AI := [⟨none, (.mov 14 (.t 0))⟩, ⟨none, (.bin 15 .and (.t 14) (.v (.k (.c (.int .u64 4294967295)))))⟩, ⟨none, (.mov 6 (.t 15))⟩]
def f93b22 : AQ := (.seq (.region f93r21) f93b20)
def f93r23 : List AI := [⟨none, (.mov 4 (.v (.k (.c (.int .u64 0)))))⟩, ⟨none, (.mov 5 (.v (.k (.c (.int .u64 0)))))⟩]
def f93b24 : AQ := (.seq (.region f93r23) f93b22)
def f93 : AQ := f93b24
theorem hf93 : cFunc Tryd.prog 93 = some ⟨51, f93.erase, [(RX.t 4), (RX.t 5)]⟩ := by kernel_rfl
theorem okf93 : f93.ok = true := by kernel_rfl
def f3r1 : List AI := [⟨none, (.mov 94 (.t 7))⟩, ⟨none, (.mov 95 (.t 94))⟩, ⟨(some (95, true)), (.load 96 4 true (.t 3))⟩, ⟨(some (95, true)), (.mov 97 (.t 1))⟩, ⟨(some (95, true)), (.mov 98 (.t 2))⟩, ⟨(some (95, true)), (.call (some 99) 16 [(.t 96), (.t 97), (.t 98)])⟩, ⟨(some (95, true)), (.load 100 4 true (.t 3))⟩, ⟨(some (95, true)), (.mov 101 (.t 1))⟩, ⟨(some (95, true)), (.mov 102 (.t 2))⟩, ⟨(some (95, true)), (.call (some 103) 17 [(.t 100), (.t 101), (.t 102)])⟩, ⟨(some (95, true)), (.call (some 104) 15 [(.t 99), (.t 103)])⟩, ⟨none, (.pick 105 (.t 95) (.t 104) (.v (.k (.c (.bool false)))))⟩, ⟨none, (.mov 106 (.t 105))⟩, ⟨(some (106, true)), (.load 107 4 true (.t 3))⟩, ⟨(some (106, true)), (.mov 108 (.t 1))⟩, ⟨(some (106, true)), (.call (some 109) 18 [(.t 107), (.t 108)])⟩, ⟨(some (106, true)), (.load 110 4 true (.t 3))⟩, ⟨(some (106, true)), (.mov 111 (.t 1))⟩, ⟨(some (106, true)), (.call (some 112) 19 [(.t 110), (.t 111)])⟩, ⟨(some (106, true)), (.call (some 113) 15 [(.t 109), (.t 112)])⟩, ⟨none, (.pick 114 (.t 106) (.t 113) (.v (.k (.c (.bool false)))))⟩, ⟨none, (.mov 6 (.t 114))⟩]
def f3b2 : AQ := (.seq (.draw f3r1 [[], [0], [1], [1], [1], [2, 3, 4, 1, 1], [1], [1], [1], [6, 7, 8, 5, 1], [5, 9, 9, 1], [1, 10], [11, 10], [12], [12], [13, 14, 12, 12], [12], [12], [16, 17, 15, 12], [15, 18, 18, 12], [12, 19], [20, 19, 0, 1, 2, 3, 4, 5, 6, 7, 8, 9, 10, 11, 12, 13, 14, 15, 16, 17, 18, 19, 20]]) .ret)
def f3r3 : List AI := [⟨none, (.mov 6 (.v (.k (.c (.bool false)))))⟩]
def f3b4 : AQ := (.seq (.region f3r3) .ret)
def f3b5 : AQ := (.cond (.t 93) f3b4 .skip)
def f3r6 : List AI := [⟨none, (.load 66 2 true (.t 8))⟩, ⟨none, (.load 67 2 true (.t 10))⟩, ⟨none, (.eqAgg 68 true [.bool, .int] (.t 66) (.t 67))⟩, ⟨none, (.mov 69 (.t 68))⟩, ⟨(some (69, false)), (.mov 70 (.t 9))⟩, ⟨(some (69, false)), (.mov 71 (.t 11))⟩, ⟨(some (69, false)), (.bin 72 .neq (.t 70) (.t 71))⟩, ⟨none, (.pick 73 (.t 69) (.v (.k (.c (.bool true)))) (.t 72))⟩, ⟨none, (.mov 74 (.t 73))⟩, ⟨(some (74, false)), (.load 75 3 true (.t 12))⟩, ⟨(some (74, false)), (.load 76 3 true (.t 14))⟩, ⟨(some (74, false)), (.eqAgg 77 true [.int, .int, .bool] (.t 75) (.t 76))⟩, ⟨none, (.pick 78 (.t 74) (.v (.k (.c (.bool true)))) (.t 77))⟩, ⟨none, (.mov 79 (.t 78))⟩, ⟨(some (79, false)), (.mov 80 (.t 13))⟩, ⟨(some (79, false)), (.mov 81 (.t 15))⟩, ⟨(some (79, false)), (.bin 82 .neq (.t 80) (.t 81))⟩, ⟨none, (.pick 83 (.t 79) (.v (.k (.c (.bool true)))) (.t 82))⟩, ⟨none, (.mov 84 (.t 83))⟩, ⟨(some (84, false)), (.mov 85 (.t 16))⟩, ⟨(some (84, false)), (.mov 86 (.t 18))⟩, ⟨(some (84, false)), (.bin 87 .neq (.t 85) (.t 86))⟩, ⟨none, (.pick 88 (.t 84) (.v (.k (.c (.bool true)))) (.t 87))⟩, ⟨none, (.mov 89 (.t 88))⟩, ⟨(some (89, false)), (.mov 90 (.t 17))⟩, ⟨(some (89, false)), (.mov 91 (.t 19))⟩, ⟨(some (89, false)), (.binB 92 true (.t 90) (.t 91))⟩, ⟨none, (.pick 93 (.t 89) (.v (.k (.c (.bool true)))) (.t 92))⟩]
def f3b7 : AQ := (.seq (.region f3r6) f3b5)
def f3b8 : AQ := (.seq f3b7 f3b2)
def f3r9 : List AI := [⟨none, (.mov 62 (.t 1))⟩, ⟨none, (.call (some 63) 14 [(.t 62)])⟩, ⟨none, (.mov 61 (.t 63))⟩, ⟨none, (.extr 64 (.t 61) 0)⟩, ⟨none, (.extr 65 (.t 61) 1)⟩, ⟨none, (.mov 18 (.t 64))⟩, ⟨none, (.mov 19 (.t 65))⟩]
def f3b10 : AQ := (.seq (.region f3r9) f3b8)
def f3r11 : List AI := [⟨none, (.mov 57 (.t 1))⟩, ⟨none, (.call (some 58) 13 [(.t 57)])⟩, ⟨none, (.mov 56 (.t 58))⟩, ⟨none, (.extr 59 (.t 56) 0)⟩, ⟨none, (.extr 60 (.t 56) 1)⟩, ⟨none, (.mov 16 (.t 59))⟩, ⟨none, (.mov 17 (.t 60))⟩]
def f3b12 : AQ := (.seq (.region f3r11) f3b10)
def f3r13 : List AI := [⟨none, (.load 51 4 true (.t 3))⟩, ⟨none, (.mov 52 (.t 1))⟩, ⟨none, (.call (some 53) 12 [(.t 51), (.t 52)])⟩, ⟨none, (.mov 50 (.t 53))⟩, ⟨none, (.extr 54 (.t 50) 0)⟩, ⟨none, (.extr 55 (.t 50) 1)⟩, ⟨none, (.alloc 14 35 [(.int .i64 0), (.int .i64 0), (.bool false)])⟩, ⟨none, (.store 3 (.t 14) (.t 54))⟩, ⟨none, (.mov 15 (.t 55))⟩]
def f3b14 : AQ := (.seq (.region f3r13) f3b12)
def f3r15 : List AI := [⟨none, (.load 45 4 true (.t 3))⟩, ⟨none, (.mov 46 (.t 1))⟩, ⟨none, (.call (some 47) 11 [(.t 45), (.t 46)])⟩, ⟨none, (.mov 44 (.t 47))⟩, ⟨none, (.extr 48 (.t 44) 0)⟩, ⟨none, (.extr 49 (.t 44) 1)⟩, ⟨none, (.alloc 12 35 [(.int .i64 0), (.int .i64 0), (.bool false)])⟩, ⟨none, (.store 3 (.t 12) (.t 48))⟩, ⟨none, (.mov 13 (.t 49))⟩]
def f3b16 : AQ := (.seq (.region f3r15) f3b14)
def f3r17 : List AI := [⟨none, (.load 38 4 true (.t 3))⟩, ⟨none, (.mov 39 (.t 1))⟩, ⟨none, (.mov 40 (.t 2))⟩, ⟨none, (.call (some 41) 10 [(.t 38), (.t 39), (.t 40)])⟩, ⟨none, (.mov 37 (.t 41))⟩, ⟨none, (.extr 42 (.t 37) 0)⟩, ⟨none, (.extr 43 (.t 37) 1)⟩, ⟨none, (.alloc 10 30 [(.bool false), (.int .i64 0)])⟩, ⟨none, (.store 2 (.t 10) (.t 42))⟩, ⟨none, (.mov 11 (.t 43))⟩]
def f3b18 : AQ := (.seq (.region f3r17) f3b16)
def f3r19 : List AI := [⟨none, (.load 31 4 true (.t 3))⟩, ⟨none, (.mov 32 (.t 1))⟩, ⟨none, (.mov 33 (.t 2))⟩, ⟨none, (.call (some 34) 9 [(.t 31), (.t 32), (.t 33)])⟩, ⟨none, (.mov 30 (.t 34))⟩, ⟨none, (.extr 35 (.t 30) 0)⟩, ⟨none, (.extr 36 (.t 30) 1)⟩, ⟨none, (.alloc 8 30 [(.bool false), (.int .i64 0)])⟩, ⟨none, (.store 2 (.t 8) (.t 35))⟩, ⟨none, (.mov 9 (.t 36))⟩]
def f3b20 : AQ := (.seq (.region f3r19) f3b18)
def f3r21 : List AI := [⟨none, (.mov 29 (.t 7))⟩, ⟨none, (.mov 6 (.t 29))⟩]
def f3b22 : AQ := (.seq (.region f3r21) .ret)
def f3b23 : AQ := (.cond (.t 28) f3b22 .skip)
def f3r24 : List AI := [⟨none, (.load 21 4 true (.t 3))⟩, ⟨none, (.call (some 22) 8 [(.t 21)])⟩, ⟨none, (.un 23 .not (.t 22))⟩, ⟨none, (.mov 24 (.t 23))⟩, ⟨(some (24, false)), (.mov 25 (.t 2))⟩, ⟨(some (24, false)), (.len 26 (.t 25))⟩, ⟨(some (24, false)), (.bin 27 .gtr (.t 26) (.v (.k (.c (.int .i64 100)))))⟩, ⟨none, (.pick 28 (.t 24) (.v (.k (.c (.bool true)))) (.t 27))⟩]
def f3b25 : AQ := (.seq (.region f3r24) f3b23)
def f3b26 : AQ := (.seq f3b25 f3b20)
def f3r27 : List AI := [⟨none, (.call (some 20) 7 [])⟩, ⟨none, (.mov 7 (.t 20))⟩]
def f3b28 : AQ := (.seq (.region f3r27) f3b26)
def f3r29 : List AI := [⟨none, (.box 3 25 (.t 0))⟩, ⟨none, (.mov 6 (.v (.k (.c (.bool false)))))⟩]
def f3b30 : AQ := (.seq (.region f3r29) f3b28)
def f3 : AQ := f3b30
theorem hf3 : cFunc Tryd.prog 3 = some ⟨115, f3.erase, [(RX.t 6)]⟩ := by kernel_rfl
theorem okf3 : f3.ok = true := by kernel_rfl
def f4r1 : List AI := [⟨none, (.mov 75 (.t 9))⟩, ⟨none, (.mov 76 (.t 75))⟩, ⟨(some (76, true)), (.faddr 77 0 (.t 10))⟩, ⟨(some (76, true)), (.load 78 1 false (.t 77))⟩, ⟨(some (76, true)), (.un 79 .not (.t 78))⟩, ⟨(some (76, true)), (.mov 80 (.t 79))⟩, ⟨(some (80, false)), (.load 81 2 true (.t 10))⟩, ⟨(some (80, false)), (.load 82 2 true (.t 12))⟩, ⟨(some (80, false)), (.eqAgg 83 false [.bool, .int] (.t 81) (.t 82))⟩, ⟨(some (76, true)), (.pick 84 (.t 80) (.v (.k (.c (.bool true)))) (.t 83))⟩, ⟨none, (.pick 85 (.t 76) (.t 84) (.v (.k (.c (.bool false)))))⟩, ⟨none, (.mov 86 (.t 85))⟩, ⟨(some (86, true)), (.faddr 87 0 (.t 10))⟩, ⟨(some (86, true)), (.load 88 1 false (.t 87))⟩, ⟨(some (86, true)), (.mov 89 (.t 14))⟩, ⟨(some (86, true)), (.len 90 (.t 89))⟩, ⟨(some (86, true)), (.bin 91 .eql (.t 90) (.v (.k (.c (.int .i64 0)))))⟩, ⟨(some (86, true)), (.binB 92 false (.t 88) (.t 91))⟩, ⟨none, (.pick 93 (.t 86) (.t 92) (.v (.k (.c (.bool false)))))⟩, ⟨none, (.mov 94 (.t 93))⟩, ⟨(some (94, true)), (.faddr 95 0 (.t 10))⟩, ⟨(some (94, true)), (.load 96 1 false (.t 95))⟩, ⟨(some (94, true)), (.mov 97 (.t 96))⟩, ⟨(some (97, false)), (.faddr 98 1 (.t 10))⟩, ⟨(some (97, false)), (.load 99 1 false (.t 98))⟩, ⟨(some (97, false)), (.bin 100 .eql (.t 99) (.v (.k (.c (.int .i64 0)))))⟩, ⟨(some (94, true)), (.pick 101 (.t 97) (.v (.k (.c (.bool true)))) (.t 100))⟩, ⟨none, (.pick 102 (.t 94) (.t 101) (.v (.k (.c (.bool false)))))⟩, ⟨none, (.mov 8 (.t 102))⟩]
def f4b2 : AQ := (.seq (.region f4r1) .ret)
def f4r3 : List AI := [⟨none, (.mov 74 (.t 9))⟩, ⟨none, (.mov 8 (.t 74))⟩]
def f4b4 : AQ := (.seq (.region f4r3) .ret)
def f4b5 : AQ := (.cond (.t 73) f4b4 .skip)
def f4r6 : List AI := [⟨none, (.mov 72 (.t 11))⟩, ⟨none, (.bin 73 .neq (.t 72) (.v (.k (.c (.int .i64 0)))))⟩]
def f4b7 : AQ := (.seq (.region f4r6) f4b5)
def f4b8 : AQ := (.seq f4b7 f4b2)
def f4r9 : List AI := [⟨none, (.mov 8 (.v (.k (.c (.bool false)))))⟩]
def f4b10 : AQ := (.seq (.region f4r9) .ret)
def f4b11 : AQ := (.cond (.t 71) f4b10 .skip)
def f4r12 : List AI := [⟨none, (.mov 50 (.t 11))⟩, ⟨none, (.mov 51 (.t 13))⟩, ⟨none, (.bin 52 .neq (.t 50) (.t 51))⟩, ⟨none, (.mov 53 (.t 52))⟩, ⟨(some (53, false)), (.mov 54 (.t 11))⟩, ⟨(some (53, false)), (.bin 55 .neq (.t 54) (.v (.k (.c (.int .i64 0)))))⟩, ⟨(some (53, false)), (.mov 56 (.t 55))⟩, ⟨(some (56, true)), (.load 57 2 true (.t 10))⟩, ⟨(some (56, true)), (.build 58 [(.bool false), (.int .i64 0)] [])⟩, ⟨(some (56, true)), (.eqAgg 59 true [.bool, .int] (.t 57) (.t 58))⟩, ⟨(some (56, true)), (.mov 60 (.t 59))⟩, ⟨(some (60, false)), (.load 61 2 true (.t 12))⟩, ⟨(some (60, false)), (.load 62 2 true (.t 10))⟩, ⟨(some (60, false)), (.eqAgg 63 true [.bool, .int] (.t 61) (.t 62))⟩, ⟨(some (56, true)), (.pick 64 (.t 60) (.v (.k (.c (.bool true)))) (.t 63))⟩, ⟨(some (56, true)), (.mov 65 (.t 64))⟩, ⟨(some (65, false)), (.mov 66 (.t 14))⟩, ⟨(some (65, false)), (.len 67 (.t 66))⟩, ⟨(some (65, false)), (.bin 68 .neq (.t 67) (.v (.k (.c (.int .i64 0)))))⟩, ⟨(some (56, true)), (.pick 69 (.t 65) (.v (.k (.c (.bool true)))) (.t 68))⟩, ⟨(some (53, false)), (.pick 70 (.t 56) (.t 69) (.v (.k (.c (.bool false)))))⟩, ⟨none, (.pick 71 (.t 53) (.v (.k (.c (.bool true)))) (.t 70))⟩]
def f4b13 : AQ := (.seq (.region f4r12) f4b11)
def f4b14 : AQ := (.seq f4b13 f4b8)
def f4r15 : List AI := [⟨none, (.load 46 4 true (.t 4))⟩, ⟨none, (.mov 47 (.t 1))⟩, ⟨none, (.mov 48 (.t 2))⟩, ⟨none, (.call (some 49) 16 [(.t 46), (.t 47), (.t 48)])⟩, ⟨none, (.mov 14 (.t 49))⟩]
def f4b16 : AQ := (.seq (.region f4r15) f4b14)
def f4r17o0 : AI := ⟨none, (.load 38 4 true (.t 4))⟩
def f4r17o1 : AI := ⟨none, (.mov 39 (.t 1))⟩
def f4r17o2 : AI := ⟨none, (.mov 40 (.t 2))⟩
def f4r17o3 : AI := ⟨none, (.mov 41 (.t 3))⟩
def f4r17o4 : AI := ⟨none, (.call (some 42) 20 [(.t 40), (.t 41)])⟩
def f4r17o5 : AI := ⟨none, (.call (some 43) 9 [(.t 38), (.t 39), (.t 42)])⟩
def f4r17o6 : AI := ⟨none, (.mov 37 (.t 43))⟩
def f4r17o7 : AI := ⟨none, (.extr 44 (.t 37) 0)⟩
def f4r17o8 : AI := ⟨none, (.extr 45 (.t 37) 1)⟩
def f4r17o9 : AI := ⟨none, (.alloc 12 30 [(.bool false), (.int .i64 0)])⟩
def f4r17o10 : AI := ⟨none, (.store 2 (.t 12) (.t 44))⟩
def f4r17o11 : AI := ⟨none, (.mov 13 (.t 45))⟩
def f4r17 : List AI := [f4r17o0, f4r17o1, f4r17o2, f4r17o3, f4r17o4, f4r17o5, f4r17o6, f4r17o7, f4r17o8, f4r17o9, f4r17o10, f4r17o11]
theorem utf4r17 : treeOf f4r17 [[], [], [], [], [2, 3], [0, 1, 4, 4], [5], [6], [6], [], [9, 7, 5, 0, 1, 2, 3, 4, 5, 6, 7, 9], [8, 10, 0, 1, 2, 3, 4, 5, 6, 7, 8, 9, 10]] = (.one f4r17o9 (.one f4r17o0 (.one f4r17o1 (.one f4r17o2 (.one f4r17o3 (.one f4r17o4 (.one f4r17o5 (.one f4r17o6 (.one f4r17o7 (.alt (.one f4r17o8 (.one f4r17o10 (.one f4r17o11 .done))) (.alt (.one f4r17o10 (.one f4r17o8 (.one f4r17o11 .done))) .top))))))))))) := by kernel_rfl
def f4b18 : AQ := (.seq (.tree f4r17 [[], [], [], [], [2, 3], [0, 1, 4, 4], [5], [6], [6], [], [9, 7, 5, 0, 1, 2, 3, 4, 5, 6, 7, 9], [8, 10, 0, 1, 2, 3, 4, 5, 6, 7, 8, 9, 10]]) (.keep [1, 2, 4, 9, 10, 11, 12, 13] [4, 10, 12, 34, 42, 43, 35000, 35001, 35002, 43000, 43001, 43002, 44000, 44001, 44002] f4b16))
def f4r19 : List AI := [⟨none, (.load 31 4 true (.t 4))⟩, ⟨none, (.mov 32 (.t 1))⟩, ⟨none, (.mov 33 (.t 2))⟩, ⟨none, (.call (some 34) 9 [(.t 31), (.t 32), (.t 33)])⟩, ⟨none, (.mov 30 (.t 34))⟩, ⟨none, (.extr 35 (.t 30) 0)⟩, ⟨none, (.extr 36 (.t 30) 1)⟩, ⟨none, (.alloc 10 30 [(.bool false), (.int .i64 0)])⟩, ⟨none, (.store 2 (.t 10) (.t 35))⟩, ⟨none, (.mov 11 (.t 36))⟩]
def f4b20 : AQ := (.seq (.region f4r19) f4b18)
def f4r21 : List AI := [⟨none, (.mov 29 (.t 9))⟩, ⟨none, (.mov 8 (.t 29))⟩]
def f4b22 : AQ := (.seq (.region f4r21) .ret)
def f4b23 : AQ := (.cond (.t 28) f4b22 .skip)
def f4r24 : List AI := [⟨none, (.load 16 4 true (.t 4))⟩, ⟨none, (.call (some 17) 8 [(.t 16)])⟩, ⟨none, (.un 18 .not (.t 17))⟩, ⟨none, (.mov 19 (.t 18))⟩, ⟨(some (19, false)), (.mov 20 (.t 2))⟩, ⟨(some (19, false)), (.len 21 (.t 20))⟩, ⟨(some (19, false)), (.bin 22 .gtr (.t 21) (.v (.k (.c (.int .i64 100)))))⟩, ⟨none, (.pick 23 (.t 19) (.v (.k (.c (.bool true)))) (.t 22))⟩, ⟨none, (.mov 24 (.t 23))⟩, ⟨(some (24, false)), (.mov 25 (.t 3))⟩, ⟨(some (24, false)), (.len 26 (.t 25))⟩, ⟨(some (24, false)), (.bin 27 .gtr (.t 26) (.v (.k (.c (.int .i64 100)))))⟩, ⟨none, (.pick 28 (.t 24) (.v (.k (.c (.bool true)))) (.t 27))⟩]
def f4b25 : AQ := (.seq (.region f4r24) f4b23)
def f4b26 : AQ := (.seq f4b25 f4b20)
def f4r27 : List AI := [⟨none, (.call (some 15) 7 [])⟩, ⟨none, (.mov 9 (.t 15))⟩]
def f4b28 : AQ := (.seq (.region f4r27) f4b26)
def f4r29 : List AI := [⟨none, (.box 4 25 (.t 0))⟩, ⟨none, (.mov 8 (.v (.k (.c (.bool false)))))⟩]
def f4b30 : AQ := (.seq (.region f4r29) f4b28)
def f4 : AQ := f4b30
theorem hf4 : cFunc Tryd.prog 4 = some ⟨103, f4.erase, [(RX.t 8)]⟩ := by kernel_rfl
theorem okf4 : f4.ok = true := by kernel_rfl
def f5r1 : List AI := [⟨none, (.mov 206 (.t 9))⟩, ⟨none, (.mov 207 (.t 206))⟩, ⟨(some (207, true)), (.mov 208 (.t 24))⟩, ⟨(some (207, true)), (.bin 209 .neq (.t 208) (.v (.k (.c (.int .i64 0)))))⟩, ⟨(some (207, true)), (.mov 210 (.t 209))⟩, ⟨(some (210, true)), (.mov 211 (.t 11))⟩, ⟨(some (210, true)), (.len 212 (.t 211))⟩, ⟨(some (210, true)), (.bin 213 .eql (.t 212) (.v (.k (.c (.int .i64 0)))))⟩, ⟨(some (207, true)), (.pick 214 (.t 210) (.t 213) (.v (.k (.c (.bool false)))))⟩, ⟨(some (207, true)), (.mov 215 (.t 214))⟩, ⟨(some (215, false)), (.mov 216 (.t 24))⟩, ⟨(some (215, false)), (.bin 217 .eql (.t 216) (.v (.k (.c (.int .i64 0)))))⟩, ⟨(some (215, false)), (.mov 218 (.t 217))⟩, ⟨(some (218, true)), (.faddr 219 0 (.t 23))⟩, ⟨(some (218, true)), (.load 220 1 false (.t 219))⟩, ⟨(some (215, false)), (.pick 221 (.t 218) (.t 220) (.v (.k (.c (.bool false)))))⟩, ⟨(some (207, true)), (.pick 222 (.t 215) (.v (.k (.c (.bool true)))) (.t 221))⟩, ⟨none, (.pick 223 (.t 207) (.t 222) (.v (.k (.c (.bool false)))))⟩, ⟨none, (.mov 8 (.t 223))⟩]
def f5b2 : AQ := (.seq (.region f5r1) .ret)
def f5r3 : List AI := [⟨none, (.load 200 4 true (.t 4))⟩, ⟨none, (.mov 201 (.t 1))⟩, ⟨none, (.mov 202 (.t 20))⟩, ⟨none, (.call (some 203) 9 [(.t 200), (.t 201), (.t 202)])⟩, ⟨none, (.mov 199 (.t 203))⟩, ⟨none, (.extr 204 (.t 199) 0)⟩, ⟨none, (.extr 205 (.t 199) 1)⟩, ⟨none, (.alloc 23 30 [(.bool false), (.int .i64 0)])⟩, ⟨none, (.store 2 (.t 23) (.t 204))⟩, ⟨none, (.mov 24 (.t 205))⟩]
def f5b4 : AQ := (.seq (.region f5r3) f5b2)
def f5r5 : List AI := [⟨none, (.mov 176 (.t 22))⟩, ⟨none, (.bin 177 .add (.t 176) (.v (.k (.c (.int .i64 1)))))⟩, ⟨none, (.mov 22 (.t 177))⟩]
def f5r6 : List AI := [⟨none, (.mov 192 (.t 20))⟩, ⟨none, (.mov 193 (.t 11))⟩, ⟨none, (.mov 194 (.t 22))⟩, ⟨none, (.iaddr 195 1 (.t 193) (.t 194))⟩, ⟨none, (.load 196 1 false (.t 195))⟩, ⟨none, (.iaddr 197 2 (.t 192) (.t 196))⟩, ⟨none, (.faddr 198 0 (.t 197))⟩, ⟨none, (.store 1 (.t 198) (.v (.k (.c (.bool true)))))⟩]
def f5r7 : List AI := [⟨none, (.mov 8 (.v (.k (.c (.bool false)))))⟩]
def f5b8 : AQ := (.seq (.region f5r7) .ret)
def f5b9 : AQ := (.cond (.t 191) f5b8 .skip)
def f5r10 : List AI := [⟨none, (.mov 178 (.t 11))⟩, ⟨none, (.mov 179 (.t 22))⟩, ⟨none, (.iaddr 180 1 (.t 178) (.t 179))⟩, ⟨none, (.load 181 1 false (.t 180))⟩, ⟨none, (.bin 182 .lss (.t 181) (.v (.k (.c (.int .i64 0)))))⟩, ⟨none, (.mov 183 (.t 182))⟩, ⟨(some (183, false)), (.mov 184 (.t 11))⟩, ⟨(some (183, false)), (.mov 185 (.t 22))⟩, ⟨(some (183, false)), (.iaddr 186 1 (.t 184) (.t 185))⟩, ⟨(some (183, false)), (.load 187 1 false (.t 186))⟩, ⟨(some (183, false)), (.mov 188 (.t 20))⟩, ⟨(some (183, false)), (.len 189 (.t 188))⟩, ⟨(some (183, false)), (.bin 190 .geq (.t 187) (.t 189))⟩, ⟨none, (.pick 191 (.t 183) (.v (.k (.c (.bool true)))) (.t 190))⟩]
def f5b11 : AQ := (.seq (.region f5r10) f5b9)
def f5b12 : AQ := (.seq f5b11 (.region f5r6))
def f5b13 : AQ := (.block 9 f5b12)
def f5b14 : AQ := (.seq f5b13 (.region f5r5))
def f5b15 : AQ := (.cond (.t 175) .skip (.exit 8))
def f5r16 : List AI := [⟨none, (.mov 172 (.t 22))⟩, ⟨none, (.mov 173 (.t 11))⟩, ⟨none, (.len 174 (.t 173))⟩, ⟨none, (.bin 175 .lss (.t 172) (.t 174))⟩]
def f5b17 : AQ := (.seq (.region f5r16) f5b15)
def f5b18 : AQ := (.seq f5b17 f5b14)
def f5l19 : AQ := .loop [1, 4, 9, 11, 20, 22] [4, 46, 147, 47000, 47001, 47002] f5b18
theorem uf5l19 (P ts os Q) : awl P f5l19 Q ts os = awl P (.loop [1, 4, 9, 11, 20, 22] [4, 46, 147, 47000, 47001, 47002] f5b18) Q ts os := id rfl
def f5b20 : AQ := (.block 8 f5l19)
def f5r21 : List AI := [⟨none, (.mov 22 (.v (.k (.c (.int .i64 0)))))⟩]
def f5b22 : AQ := (.seq (.region f5r21) f5b20)
def f5b23 : AQ := (.seq f5b22 (.frz 147 f5b4))
def f5r24 : List AI := [⟨none, (.mov 152 (.t 21))⟩, ⟨none, (.bin 153 .add (.t 152) (.v (.k (.c (.int .i64 1)))))⟩, ⟨none, (.mov 21 (.t 153))⟩]
def f5r25 : List AI := [⟨none, (.mov 165 (.t 20))⟩, ⟨none, (.mov 166 (.t 21))⟩, ⟨none, (.mov 167 (.t 2))⟩, ⟨none, (.mov 168 (.t 21))⟩, ⟨none, (.iaddr 169 2 (.t 167) (.t 168))⟩, ⟨none, (.load 170 2 true (.t 169))⟩, ⟨none, (.iaddr 171 2 (.t 165) (.t 166))⟩, ⟨none, (.store 2 (.t 171) (.t 170))⟩]
def f5b26 : AQ := (.cond (.t 164) (.region f5r25) .skip)
def f5r27 : List AI := [⟨none, (.mov 154 (.t 21))⟩, ⟨none, (.mov 155 (.t 2))⟩, ⟨none, (.len 156 (.t 155))⟩, ⟨none, (.bin 157 .lss (.t 154) (.t 156))⟩, ⟨none, (.mov 158 (.t 157))⟩, ⟨(some (158, true)), (.mov 159 (.t 2))⟩, ⟨(some (158, true)), (.mov 160 (.t 21))⟩, ⟨(some (158, true)), (.iaddr 161 2 (.t 159) (.t 160))⟩, ⟨(some (158, true)), (.faddr 162 0 (.t 161))⟩, ⟨(some (158, true)), (.load 163 1 false (.t 162))⟩, ⟨none, (.pick 164 (.t 158) (.t 163) (.v (.k (.c (.bool false)))))⟩]
def f5b28 : AQ := (.seq (.region f5r27) f5b26)
def f5b29 : AQ := (.block 7 f5b28)
def f5b30 : AQ := (.seq f5b29 (.region f5r24))
def f5b31 : AQ := (.cond (.t 151) .skip (.exit 6))
def f5r32 : List AI := [⟨none, (.mov 148 (.t 21))⟩, ⟨none, (.mov 149 (.t 20))⟩, ⟨none, (.len 150 (.t 149))⟩, ⟨none, (.bin 151 .lss (.t 148) (.t 150))⟩]
def f5b33 : AQ := (.seq (.region f5r32) f5b31)
def f5b34 : AQ := (.seq f5b33 f5b30)
def f5l35 : AQ := .loop [1, 2, 4, 9, 11, 20, 21] [4, 46, 147, 47000, 47001, 47002] f5b34
theorem uf5l35 (P ts os Q) : awl P f5l35 Q ts os = awl P (.loop [1, 2, 4, 9, 11, 20, 21] [4, 46, 147, 47000, 47001, 47002] f5b34) Q ts os := id rfl
def f5b36 : AQ := (.block 6 f5l35)
def f5r37 : List AI := [⟨none, (.mov 21 (.v (.k (.c (.int .i64 0)))))⟩]
def f5b38 : AQ := (.seq (.region f5r37) f5b36)
def f5b39 : AQ := (.seq f5b38 f5b23)
def f5r40 : List AI := [⟨none, (.mkslice 147 30 2 16 [(.bool false), (.int .i64 0)] (.v (.k (.c (.int .i64 20)))) (.v (.k (.c (.int .i64 20)))))⟩, ⟨none, (.mov 20 (.t 147))⟩]
def f5b41 : AQ := (.seq (.region f5r40) f5b39)
def f5r42 : List AI := [⟨none, (.mov 8 (.v (.k (.c (.bool false)))))⟩]
def f5b43 : AQ := (.seq (.region f5r42) .ret)
def f5b44 : AQ := (.cond (.t 146) f5b43 .skip)
def f5r45 : List AI := [⟨none, (.mov 136 (.t 10))⟩, ⟨none, (.len 137 (.t 136))⟩, ⟨none, (.bin 138 .gtr (.t 137) (.v (.k (.c (.int .i64 0)))))⟩, ⟨none, (.mov 139 (.t 138))⟩, ⟨(some (139, true)), (.mov 140 (.t 19))⟩, ⟨(some (139, true)), (.bin 141 .neq (.t 140) (.v (.k (.c (.int .i64 0)))))⟩, ⟨(some (139, true)), (.mov 142 (.t 141))⟩, ⟨(some (142, false)), (.faddr 143 0 (.t 18))⟩, ⟨(some (142, false)), (.load 144 1 false (.t 143))⟩, ⟨(some (139, true)), (.pick 145 (.t 142) (.v (.k (.c (.bool true)))) (.t 144))⟩, ⟨none, (.pick 146 (.t 139) (.t 145) (.v (.k (.c (.bool false)))))⟩]
def f5b46 : AQ := (.seq (.region f5r45) f5b44)
def f5b47 : AQ := (.seq f5b46 f5b41)
def f5r48 : List AI := [⟨none, (.load 130 4 true (.t 4))⟩, ⟨none, (.mov 131 (.t 1))⟩, ⟨none, (.mov 132 (.t 16))⟩, ⟨none, (.call (some 133) 9 [(.t 130), (.t 131), (.t 132)])⟩, ⟨none, (.mov 129 (.t 133))⟩, ⟨none, (.extr 134 (.t 129) 0)⟩, ⟨none, (.extr 135 (.t 129) 1)⟩, ⟨none, (.alloc 18 30 [(.bool false), (.int .i64 0)])⟩, ⟨none, (.store 2 (.t 18) (.t 134))⟩, ⟨none, (.mov 19 (.t 135))⟩]
def f5b49 : AQ := (.seq (.region f5r48) f5b47)
def f5r50 : List AI := [⟨none, (.mov 113 (.t 17))⟩, ⟨none, (.bin 114 .add (.t 113) (.v (.k (.c (.int .i64 1)))))⟩, ⟨none, (.mov 17 (.t 114))⟩]
def f5r51 : List AI := [⟨none, (.mov 122 (.t 16))⟩, ⟨none, (.mov 123 (.t 10))⟩, ⟨none, (.mov 124 (.t 17))⟩, ⟨none, (.iaddr 125 1 (.t 123) (.t 124))⟩, ⟨none, (.load 126 1 false (.t 125))⟩, ⟨none, (.build 127 [(.bool false), (.int .i64 0)] [])⟩, ⟨none, (.iaddr 128 2 (.t 122) (.t 126))⟩, ⟨none, (.store 2 (.t 128) (.t 127))⟩]
def f5b52 : AQ := (.cond (.t 121) (.region f5r51) .skip)
def f5r53 : List AI := [⟨none, (.mov 115 (.t 10))⟩, ⟨none, (.mov 116 (.t 17))⟩, ⟨none, (.iaddr 117 1 (.t 115) (.t 116))⟩, ⟨none, (.load 118 1 false (.t 117))⟩, ⟨none, (.mov 119 (.t 16))⟩, ⟨none, (.len 120 (.t 119))⟩, ⟨none, (.bin 121 .lss (.t 118) (.t 120))⟩]
def f5b54 : AQ := (.seq (.region f5r53) f5b52)
def f5b55 : AQ := (.block 5 f5b54)
def f5b56 : AQ := (.seq f5b55 (.region f5r50))
def f5b57 : AQ := (.cond (.t 112) .skip (.exit 4))
def f5r58 : List AI := [⟨none, (.mov 109 (.t 17))⟩, ⟨none, (.mov 110 (.t 10))⟩, ⟨none, (.len 111 (.t 110))⟩, ⟨none, (.bin 112 .lss (.t 109) (.t 111))⟩]
def f5b59 : AQ := (.seq (.region f5r58) f5b57)
def f5b60 : AQ := (.seq f5b59 f5b56)
def f5l61 : AQ := .loop [1, 2, 4, 9, 10, 11, 16, 17] [4, 43, 46, 104, 108, 44000, 44001, 44002, 47000, 47001, 47002] f5b60
theorem uf5l61 (P ts os Q) : awl P f5l61 Q ts os = awl P (.loop [1, 2, 4, 9, 10, 11, 16, 17] [4, 43, 46, 104, 108, 44000, 44001, 44002, 47000, 47001, 47002] f5b60) Q ts os := id rfl
def f5b62 : AQ := (.block 4 f5l61)
def f5r63 : List AI := [⟨none, (.mov 17 (.v (.k (.c (.int .i64 0)))))⟩]
def f5b64 : AQ := (.seq (.region f5r63) f5b62)
def f5b65 : AQ := (.seq f5b64 (.frz 104 f5b49))
def f5r66 : List AI := [⟨none, (.bslice 104 30 2 [(.bool false), (.int .i64 0)] 0 [])⟩, ⟨none, (.mov 105 (.t 2))⟩, ⟨none, (.mov 106 (.t 3))⟩, ⟨none, (.call (some 107) 20 [(.t 105), (.t 106)])⟩, ⟨none, (.append 108 30 2 16 (.t 104) (.t 107))⟩, ⟨none, (.mov 16 (.t 108))⟩]
def f5b67 : AQ := (.seq (.region f5r66) f5b65)
def f5r68 : List AI := [⟨none, (.mov 51 (.t 12))⟩, ⟨none, (.bin 52 .add (.t 51) (.v (.k (.c (.int .i64 1)))))⟩, ⟨none, (.mov 12 (.t 52))⟩]
def f5r69 : List AI := [⟨none, (.mov 8 (.v (.k (.c (.bool false)))))⟩]
def f5b70 : AQ := (.seq (.region f5r69) .ret)
def f5b71 : AQ := (.cond (.t 103) f5b70 .skip)
def f5r72 : List AI := [⟨none, (.mov 72 (.t 14))⟩, ⟨none, (.un 73 .not (.t 72))⟩, ⟨none, (.mov 74 (.t 73))⟩, ⟨(some (74, false)), (.mov 75 (.t 13))⟩, ⟨(some (74, false)), (.bin 76 .lss (.t 75) (.v (.k (.c (.int .i64 0)))))⟩, ⟨none, (.pick 77 (.t 74) (.v (.k (.c (.bool true)))) (.t 76))⟩, ⟨none, (.mov 78 (.t 77))⟩, ⟨(some (78, false)), (.mov 79 (.t 13))⟩, ⟨(some (78, false)), (.mov 80 (.t 2))⟩, ⟨(some (78, false)), (.len 81 (.t 80))⟩, ⟨(some (78, false)), (.bin 82 .lss (.t 79) (.t 81))⟩, ⟨(some (78, false)), (.mov 83 (.t 82))⟩, ⟨(some (83, true)), (.mov 84 (.t 2))⟩, ⟨(some (83, true)), (.mov 85 (.t 13))⟩, ⟨(some (83, true)), (.iaddr 86 2 (.t 84) (.t 85))⟩, ⟨(some (83, true)), (.faddr 87 0 (.t 86))⟩, ⟨(some (83, true)), (.load 88 1 false (.t 87))⟩, ⟨(some (78, false)), (.pick 89 (.t 83) (.t 88) (.v (.k (.c (.bool false)))))⟩, ⟨none, (.pick 90 (.t 78) (.v (.k (.c (.bool true)))) (.t 89))⟩, ⟨none, (.mov 91 (.t 90))⟩, ⟨(some (91, false)), (.mov 92 (.t 12))⟩, ⟨(some (91, false)), (.bin 93 .gtr (.t 92) (.v (.k (.c (.int .i64 0)))))⟩, ⟨(some (91, false)), (.mov 94 (.t 93))⟩, ⟨(some (94, true)), (.mov 95 (.t 10))⟩, ⟨(some (94, true)), (.mov 96 (.t 12))⟩, ⟨(some (94, true)), (.bin 97 .sub (.t 96) (.v (.k (.c (.int .i64 1)))))⟩, ⟨(some (94, true)), (.iaddr 98 1 (.t 95) (.t 97))⟩, ⟨(some (94, true)), (.load 99 1 false (.t 98))⟩, ⟨(some (94, true)), (.mov 100 (.t 13))⟩, ⟨(some (94, true)), (.bin 101 .geq (.t 99) (.t 100))⟩, ⟨(some (91, false)), (.pick 102 (.t 94) (.t 101) (.v (.k (.c (.bool false)))))⟩, ⟨none, (.pick 103 (.t 91) (.v (.k (.c (.bool true)))) (.t 102))⟩]
def f5b73 : AQ := (.seq (.region f5r72) f5b71)
def f5r74 : List AI := [⟨none, (.mov 61 (.t 15))⟩, ⟨none, (.bin 62 .add (.t 61) (.v (.k (.c (.int .i64 1)))))⟩, ⟨none, (.mov 15 (.t 62))⟩]
def f5r75 : List AI := [⟨none, (.mov 63 (.t 14))⟩, ⟨none, (.mov 64 (.t 63))⟩, ⟨(some (64, false)), (.mov 65 (.t 11))⟩, ⟨(some (64, false)), (.mov 66 (.t 15))⟩, ⟨(some (64, false)), (.iaddr 67 1 (.t 65) (.t 66))⟩, ⟨(some (64, false)), (.load 68 1 false (.t 67))⟩, ⟨(some (64, false)), (.mov 69 (.t 13))⟩, ⟨(some (64, false)), (.bin 70 .eql (.t 68) (.t 69))⟩, ⟨none, (.pick 71 (.t 64) (.v (.k (.c (.bool true)))) (.t 70))⟩, ⟨none, (.mov 14 (.t 71))⟩]
def f5b76 : AQ := (.block 3 (.region f5r75))
def f5b77 : AQ := (.seq f5b76 (.region f5r74))
def f5b78 : AQ := (.cond (.t 60) .skip (.exit 2))
def f5r79 : List AI := [⟨none, (.mov 57 (.t 15))⟩, ⟨none, (.mov 58 (.t 11))⟩, ⟨none, (.len 59 (.t 58))⟩, ⟨none, (.bin 60 .lss (.t 57) (.t 59))⟩]
def f5b80 : AQ := (.seq (.region f5r79) f5b78)
def f5b81 : AQ := (.seq f5b80 f5b77)
def f5l82 : AQ := .loop [1, 2, 3, 4, 9, 10, 11, 12, 13, 14, 15] [4, 43, 46, 44000, 44001, 44002, 47000, 47001, 47002] f5b81
theorem uf5l82 (P ts os Q) : awl P f5l82 Q ts os = awl P (.loop [1, 2, 3, 4, 9, 10, 11, 12, 13, 14, 15] [4, 43, 46, 44000, 44001, 44002, 47000, 47001, 47002] f5b81) Q ts os := id rfl
def f5b83 : AQ := (.block 2 f5l82)
def f5r84 : List AI := [⟨none, (.mov 15 (.v (.k (.c (.int .i64 0)))))⟩]
def f5b85 : AQ := (.seq (.region f5r84) f5b83)
def f5b86 : AQ := (.seq f5b85 f5b73)
def f5r87 : List AI := [⟨none, (.mov 14 (.v (.k (.c (.bool false)))))⟩]
def f5b88 : AQ := (.seq (.region f5r87) f5b86)
def f5r89 : List AI := [⟨none, (.mov 53 (.t 10))⟩, ⟨none, (.mov 54 (.t 12))⟩, ⟨none, (.iaddr 55 1 (.t 53) (.t 54))⟩, ⟨none, (.load 56 1 false (.t 55))⟩, ⟨none, (.mov 13 (.t 56))⟩]
def f5b90 : AQ := (.seq (.region f5r89) f5b88)
def f5b91 : AQ := (.block 1 f5b90)
def f5b92 : AQ := (.seq f5b91 (.region f5r68))
def f5b93 : AQ := (.cond (.t 50) .skip (.exit 0))
def f5r94 : List AI := [⟨none, (.mov 47 (.t 12))⟩, ⟨none, (.mov 48 (.t 10))⟩, ⟨none, (.len 49 (.t 48))⟩, ⟨none, (.bin 50 .lss (.t 47) (.t 49))⟩]
def f5b95 : AQ := (.seq (.region f5r94) f5b93)
def f5b96 : AQ := (.seq f5b95 f5b92)
def f5l97 : AQ := .loop [1, 2, 3, 4, 9, 10, 11, 12] [4, 43, 46, 44000, 44001, 44002, 47000, 47001, 47002] f5b96
theorem uf5l97 (P ts os Q) : awl P f5l97 Q ts os = awl P (.loop [1, 2, 3, 4, 9, 10, 11, 12] [4, 43, 46, 44000, 44001, 44002, 47000, 47001, 47002] f5b96) Q ts os := id rfl
def f5b98 : AQ := (.block 0 f5l97)
def f5r99 : List AI := [⟨none, (.mov 12 (.v (.k (.c (.int .i64 0)))))⟩]
def f5b100 : AQ := (.seq (.region f5r99) f5b98)
def f5b101 : AQ := (.seq f5b100 f5b67)
def f5r102 : List AI := [⟨none, (.load 44 4 true (.t 4))⟩, ⟨none, (.mov 45 (.t 1))⟩, ⟨none, (.call (some 46) 18 [(.t 44), (.t 45)])⟩, ⟨none, (.mov 11 (.t 46))⟩]
def f5b103 : AQ := (.seq (.region f5r102) f5b101)
def f5r104 : List AI := [⟨none, (.load 40 4 true (.t 4))⟩, ⟨none, (.mov 41 (.t 1))⟩, ⟨none, (.mov 42 (.t 2))⟩, ⟨none, (.call (some 43) 16 [(.t 40), (.t 41), (.t 42)])⟩, ⟨none, (.mov 10 (.t 43))⟩]
def f5b105 : AQ := (.seq (.region f5r104) f5b103)
def f5r106 : List AI := [⟨none, (.mov 39 (.t 9))⟩, ⟨none, (.mov 8 (.t 39))⟩]
def f5b107 : AQ := (.seq (.region f5r106) .ret)
def f5b108 : AQ := (.cond (.t 38) f5b107 .skip)
def f5r109 : List AI := [⟨none, (.load 26 4 true (.t 4))⟩, ⟨none, (.call (some 27) 8 [(.t 26)])⟩, ⟨none, (.un 28 .not (.t 27))⟩, ⟨none, (.mov 29 (.t 28))⟩, ⟨(some (29, false)), (.mov 30 (.t 2))⟩, ⟨(some (29, false)), (.len 31 (.t 30))⟩, ⟨(some (29, false)), (.bin 32 .gtr (.t 31) (.v (.k (.c (.int .i64 100)))))⟩, ⟨none, (.pick 33 (.t 29) (.v (.k (.c (.bool true)))) (.t 32))⟩, ⟨none, (.mov 34 (.t 33))⟩, ⟨(some (34, false)), (.mov 35 (.t 3))⟩, ⟨(some (34, false)), (.len 36 (.t 35))⟩, ⟨(some (34, false)), (.bin 37 .gtr (.t 36) (.v (.k (.c (.int .i64 100)))))⟩, ⟨none, (.pick 38 (.t 34) (.v (.k (.c (.bool true)))) (.t 37))⟩]
def f5b110 : AQ := (.seq (.region f5r109) f5b108)
def f5b111 : AQ := (.seq f5b110 f5b105)
def f5r112 : List AI := [⟨none, (.call (some 25) 7 [])⟩, ⟨none, (.mov 9 (.t 25))⟩]
def f5b113 : AQ := (.seq (.region f5r112) f5b111)
def f5r114 : List AI := [⟨none, (.box 4 25 (.t 0))⟩, ⟨none, (.mov 8 (.v (.k (.c (.bool false)))))⟩]
def f5b115 : AQ := (.seq (.region f5r114) f5b113)
def f5 : AQ := f5b115
theorem hf5 : cFunc Tryd.prog 5 = some ⟨224, f5.erase, [(RX.t 8)]⟩ := by kernel_rfl
theorem okf5 : f5.ok = true := by kernel_rfl
def f7r1 : List AI := [⟨none, (.load 130 4 true (.t 1))⟩, ⟨none, (.call (some 131) 23 [(.v (.k (.c (.int .i64 15)))), (.v (.k (.c (.int .i64 0))))])⟩, ⟨none, (.call (some 132) 16 [(.t 130), (.v (.k (.c (.int .i64 2)))), (.t 131)])⟩, ⟨none, (.len 133 (.t 132))⟩, ⟨none, (.bin 134 .eql (.t 133) (.v (.k (.c (.int .i64 0)))))⟩, ⟨none, (.mov 135 (.t 134))⟩, ⟨(some (135, true)), (.mov 136 (.t 19))⟩, ⟨(some (135, true)), (.bslice 137 3 1 [(.int .i64 0)] 1 [(0, (.v (.k (.c (.int .i64 17)))))])⟩, ⟨(some (135, true)), (.call (some 138) 15 [(.t 136), (.t 137)])⟩, ⟨none, (.pick 139 (.t 135) (.t 138) (.v (.k (.c (.bool false)))))⟩, ⟨none, (.mov 140 (.t 139))⟩, ⟨(some (140, true)), (.mov 141 (.t 20))⟩, ⟨(some (140, true)), (.bslice 142 3 1 [(.int .i64 0)] 1 [(0, (.v (.k (.c (.int .i64 10)))))])⟩, ⟨(some (140, true)), (.call (some 143) 15 [(.t 141), (.t 142)])⟩, ⟨none, (.pick 144 (.t 140) (.t 143) (.v (.k (.c (.bool false)))))⟩, ⟨none, (.mov 0 (.t 144))⟩]
def f7b2 : AQ := (.seq (.draw f7r1 [[], [], [0, 1, 1], [2], [3], [4, 2], [5], [5], [6, 7, 5, 5], [5, 8], [9, 8], [10], [10], [11, 12, 10, 10], [10, 13], [14, 13, 0, 1, 2, 3, 4, 5, 6, 7, 8, 9, 10, 11, 12, 13, 14]]) .ret)
def f7r3 : List AI := [⟨none, (.load 128 4 true (.t 1))⟩, ⟨none, (.call (some 129) 18 [(.t 128), (.v (.k (.c (.int .i64 6))))])⟩, ⟨none, (.mov 20 (.t 129))⟩]
def f7b4 : AQ := (.seq (.region f7r3) f7b2)
def f7r5 : List AI := [⟨none, (.load 125 4 true (.t 1))⟩, ⟨none, (.call (some 126) 23 [(.v (.k (.c (.int .i64 15)))), (.v (.k (.c (.int .i64 1))))])⟩, ⟨none, (.call (some 127) 16 [(.t 125), (.v (.k (.c (.int .i64 2)))), (.t 126)])⟩, ⟨none, (.mov 19 (.t 127))⟩]
def f7b6 : AQ := (.seq (.draw f7r5 [[], [], [0, 1, 1], [2, 2, 0, 1, 2]]) f7b4)
def f7r7 : List AI := [⟨none, (.mov 0 (.v (.k (.c (.bool false)))))⟩]
def f7b8 : AQ := (.seq (.region f7r7) .ret)
def f7b9 : AQ := (.cond (.t 124) f7b8 .skip)
def f7r10 : List AI := [⟨none, (.load 97 2 true (.t 2))⟩, ⟨none, (.load 98 2 true (.t 18))⟩, ⟨none, (.eqAgg 99 true [.bool, .int] (.t 97) (.t 98))⟩, ⟨none, (.mov 100 (.t 99))⟩, ⟨(some (100, false)), (.load 101 2 true (.t 4))⟩, ⟨(some (100, false)), (.build 102 [(.bool false), (.int .i64 0)] [])⟩, ⟨(some (100, false)), (.eqAgg 103 true [.bool, .int] (.t 101) (.t 102))⟩, ⟨none, (.pick 104 (.t 100) (.v (.k (.c (.bool true)))) (.t 103))⟩, ⟨none, (.mov 105 (.t 104))⟩, ⟨(some (105, false)), (.load 106 2 true (.t 6))⟩, ⟨(some (105, false)), (.build 107 [(.bool false), (.int .i64 0)] [(0, (1, (.v (.k (.c (.bool true)))))), (1, (1, (.v (.k (.c (.int .i64 20000))))))])⟩, ⟨(some (105, false)), (.eqAgg 108 true [.bool, .int] (.t 106) (.t 107))⟩, ⟨none, (.pick 109 (.t 105) (.v (.k (.c (.bool true)))) (.t 108))⟩, ⟨none, (.mov 110 (.t 109))⟩, ⟨(some (110, false)), (.load 111 2 true (.t 8))⟩, ⟨(some (110, false)), (.load 112 2 true (.t 18))⟩, ⟨(some (110, false)), (.eqAgg 113 true [.bool, .int] (.t 111) (.t 112))⟩, ⟨none, (.pick 114 (.t 110) (.v (.k (.c (.bool true)))) (.t 113))⟩, ⟨none, (.mov 115 (.t 114))⟩, ⟨(some (115, false)), (.faddr 116 1 (.t 14))⟩, ⟨(some (115, false)), (.load 117 1 false (.t 116))⟩, ⟨(some (115, false)), (.bin 118 .neq (.t 117) (.v (.k (.c (.int .i64 2)))))⟩, ⟨none, (.pick 119 (.t 115) (.v (.k (.c (.bool true)))) (.t 118))⟩, ⟨none, (.mov 120 (.t 119))⟩, ⟨(some (120, false)), (.faddr 121 1 (.t 16))⟩, ⟨(some (120, false)), (.load 122 1 false (.t 121))⟩, ⟨(some (120, false)), (.bin 123 .neq (.t 122) (.v (.k (.c (.int .i64 0)))))⟩, ⟨none, (.pick 124 (.t 120) (.v (.k (.c (.bool true)))) (.t 123))⟩]
def f7b11 : AQ := (.seq (.region f7r10) f7b9)
def f7b12 : AQ := (.seq f7b11 f7b6)
def f7r13 : List AI := [⟨none, (.mov 0 (.v (.k (.c (.bool false)))))⟩]
def f7b14 : AQ := (.seq (.region f7r13) .ret)
def f7b15 : AQ := (.cond (.t 96) f7b14 .skip)
def f7r16 : List AI := [⟨none, (.mov 67 (.t 3))⟩, ⟨none, (.bin 68 .neq (.t 67) (.v (.k (.c (.int .i64 0)))))⟩, ⟨none, (.mov 69 (.t 68))⟩, ⟨(some (69, false)), (.mov 70 (.t 5))⟩, ⟨(some (69, false)), (.bin 71 .neq (.t 70) (.v (.k (.c (.int .i64 0)))))⟩, ⟨none, (.pick 72 (.t 69) (.v (.k (.c (.bool true)))) (.t 71))⟩, ⟨none, (.mov 73 (.t 72))⟩, ⟨(some (73, false)), (.mov 74 (.t 7))⟩, ⟨(some (73, false)), (.bin 75 .neq (.t 74) (.v (.k (.c (.int .i64 0)))))⟩, ⟨none, (.pick 76 (.t 73) (.v (.k (.c (.bool true)))) (.t 75))⟩, ⟨none, (.mov 77 (.t 76))⟩, ⟨(some (77, false)), (.mov 78 (.t 9))⟩, ⟨(some (77, false)), (.bin 79 .neq (.t 78) (.v (.k (.c (.int .i64 0)))))⟩, ⟨none, (.pick 80 (.t 77) (.v (.k (.c (.bool true)))) (.t 79))⟩, ⟨none, (.mov 81 (.t 80))⟩, ⟨(some (81, false)), (.mov 82 (.t 11))⟩, ⟨(some (81, false)), (.bin 83 .neq (.t 82) (.v (.k (.c (.int .i64 4)))))⟩, ⟨none, (.pick 84 (.t 81) (.v (.k (.c (.bool true)))) (.t 83))⟩, ⟨none, (.mov 85 (.t 84))⟩, ⟨(some (85, false)), (.mov 86 (.t 13))⟩, ⟨(some (85, false)), (.bin 87 .neq (.t 86) (.v (.k (.c (.int .i64 1)))))⟩, ⟨none, (.pick 88 (.t 85) (.v (.k (.c (.bool true)))) (.t 87))⟩, ⟨none, (.mov 89 (.t 88))⟩, ⟨(some (89, false)), (.mov 90 (.t 15))⟩, ⟨(some (89, false)), (.bin 91 .neq (.t 90) (.v (.k (.c (.int .i64 0)))))⟩, ⟨none, (.pick 92 (.t 89) (.v (.k (.c (.bool true)))) (.t 91))⟩, ⟨none, (.mov 93 (.t 92))⟩, ⟨(some (93, false)), (.mov 94 (.t 17))⟩, ⟨(some (93, false)), (.bin 95 .neq (.t 94) (.v (.k (.c (.int .i64 0)))))⟩, ⟨none, (.pick 96 (.t 93) (.v (.k (.c (.bool true)))) (.t 95))⟩]
def f7b17 : AQ := (.seq (.region f7r16) f7b15)
def f7b18 : AQ := (.seq f7b17 f7b12)
def f7r19 : List AI := [⟨none, (.build 66 [(.bool false), (.int .i64 0)] [(0, (1, (.v (.k (.c (.bool true))))))])⟩, ⟨none, (.alloc 18 30 [(.bool false), (.int .i64 0)])⟩, ⟨none, (.store 2 (.t 18) (.t 66))⟩]
def f7b20 : AQ := (.seq (.region f7r19) f7b18)
def f7r21 : List AI := [⟨none, (.load 62 4 true (.t 1))⟩, ⟨none, (.call (some 63) 11 [(.t 62), (.v (.k (.c (.int .i64 2))))])⟩, ⟨none, (.mov 61 (.t 63))⟩, ⟨none, (.extr 64 (.t 61) 0)⟩, ⟨none, (.extr 65 (.t 61) 1)⟩, ⟨none, (.alloc 16 35 [(.int .i64 0), (.int .i64 0), (.bool false)])⟩, ⟨none, (.store 3 (.t 16) (.t 64))⟩, ⟨none, (.mov 17 (.t 65))⟩]
def f7b22 : AQ := (.seq (.region f7r21) f7b20)
def f7r23 : List AI := [⟨none, (.load 57 4 true (.t 1))⟩, ⟨none, (.call (some 58) 11 [(.t 57), (.v (.k (.c (.int .i64 6))))])⟩, ⟨none, (.mov 56 (.t 58))⟩, ⟨none, (.extr 59 (.t 56) 0)⟩, ⟨none, (.extr 60 (.t 56) 1)⟩, ⟨none, (.alloc 14 35 [(.int .i64 0), (.int .i64 0), (.bool false)])⟩, ⟨none, (.store 3 (.t 14) (.t 59))⟩, ⟨none, (.mov 15 (.t 60))⟩]
def f7b24 : AQ := (.seq (.region f7r23) f7b22)
def f7r25 : List AI := [⟨none, (.load 52 4 true (.t 1))⟩, ⟨none, (.call (some 53) 9 [(.t 52), (.v (.k (.c (.int .i64 22)))), (.v (.k (.c (.list 0 (some true) []))))])⟩, ⟨none, (.mov 51 (.t 53))⟩, ⟨none, (.extr 54 (.t 51) 0)⟩, ⟨none, (.extr 55 (.t 51) 1)⟩, ⟨none, (.alloc 12 30 [(.bool false), (.int .i64 0)])⟩, ⟨none, (.store 2 (.t 12) (.t 54))⟩, ⟨none, (.mov 13 (.t 55))⟩]
def f7b26 : AQ := (.seq (.region f7r25) f7b24)
def f7r27 : List AI := [⟨none, (.load 47 4 true (.t 1))⟩, ⟨none, (.call (some 48) 9 [(.t 47), (.v (.k (.c (.int .i64 0)))), (.v (.k (.c (.list 0 (some true) []))))])⟩, ⟨none, (.mov 46 (.t 48))⟩, ⟨none, (.extr 49 (.t 46) 0)⟩, ⟨none, (.extr 50 (.t 46) 1)⟩, ⟨none, (.alloc 10 30 [(.bool false), (.int .i64 0)])⟩, ⟨none, (.store 2 (.t 10) (.t 49))⟩, ⟨none, (.mov 11 (.t 50))⟩]
def f7b28 : AQ := (.seq (.region f7r27) f7b26)
def f7r29o0 : AI := ⟨none, (.load 41 4 true (.t 1))⟩
def f7r29o1 : AI := ⟨none, (.call (some 42) 23 [(.v (.k (.c (.int .i64 10)))), (.v (.k (.c (.int .i64 1))))])⟩
def f7r29o2 : AI := ⟨none, (.call (some 43) 9 [(.t 41), (.v (.k (.c (.int .i64 6)))), (.t 42)])⟩
def f7r29o3 : AI := ⟨none, (.mov 40 (.t 43))⟩
def f7r29o4 : AI := ⟨none, (.extr 44 (.t 40) 0)⟩
def f7r29o5 : AI := ⟨none, (.extr 45 (.t 40) 1)⟩
def f7r29o6 : AI := ⟨none, (.alloc 8 30 [(.bool false), (.int .i64 0)])⟩
def f7r29o7 : AI := ⟨none, (.store 2 (.t 8) (.t 44))⟩
def f7r29o8 : AI := ⟨none, (.mov 9 (.t 45))⟩
def f7r29 : List AI := [f7r29o0, f7r29o1, f7r29o2, f7r29o3, f7r29o4, f7r29o5, f7r29o6, f7r29o7, f7r29o8]
theorem utf7r29 : treeOf f7r29 [[], [], [0, 1, 1], [2], [3], [3], [], [6, 4, 2, 0, 1, 2, 3, 4, 6], [5, 7, 0, 1, 2, 3, 4, 5, 6, 7]] = (.one f7r29o6 (.one f7r29o0 (.one f7r29o1 (.one f7r29o2 (.one f7r29o3 (.one f7r29o4 (.alt (.one f7r29o5 (.one f7r29o7 (.one f7r29o8 .done))) (.alt (.one f7r29o7 (.one f7r29o5 (.one f7r29o8 .done))) .top)))))))) := by kernel_rfl
def f7b30 : AQ := (.seq (.tree f7r29 [[], [], [0, 1, 1], [2], [3], [3], [], [6, 4, 2, 0, 1, 2, 3, 4, 6], [5, 7, 0, 1, 2, 3, 4, 5, 6, 7]]) (.keep [1, 2, 3, 4, 5, 6, 7, 8, 9] [1, 2, 4, 6, 8, 21, 24, 25, 30, 31, 36, 37, 42, 43, 22000, 22001, 22002, 25000, 25001, 25002, 26000, 26001, 26002, 31000, 31001, 31002, 32000, 32001, 32002, 37000, 37001, 37002, 38000, 38001, 38002, 43000, 43001, 43002, 44000, 44001, 44002] f7b28))
def f7r31o0 : AI := ⟨none, (.load 35 4 true (.t 1))⟩
def f7r31o1 : AI := ⟨none, (.call (some 36) 23 [(.v (.k (.c (.int .i64 10)))), (.v (.k (.c (.int .i64 0))))])⟩
def f7r31o2 : AI := ⟨none, (.call (some 37) 9 [(.t 35), (.v (.k (.c (.int .i64 6)))), (.t 36)])⟩
def f7r31o3 : AI := ⟨none, (.mov 34 (.t 37))⟩
def f7r31o4 : AI := ⟨none, (.extr 38 (.t 34) 0)⟩
def f7r31o5 : AI := ⟨none, (.extr 39 (.t 34) 1)⟩
def f7r31o6 : AI := ⟨none, (.alloc 6 30 [(.bool false), (.int .i64 0)])⟩
def f7r31o7 : AI := ⟨none, (.store 2 (.t 6) (.t 38))⟩
def f7r31o8 : AI := ⟨none, (.mov 7 (.t 39))⟩
def f7r31 : List AI := [f7r31o0, f7r31o1, f7r31o2, f7r31o3, f7r31o4, f7r31o5, f7r31o6, f7r31o7, f7r31o8]
theorem utf7r31 : treeOf f7r31 [[], [], [0, 1, 1], [2], [3], [3], [], [6, 4, 2, 0, 1, 2, 3, 4, 6], [5, 7, 0, 1, 2, 3, 4, 5, 6, 7]] = (.one f7r31o6 (.one f7r31o0 (.one f7r31o1 (.one f7r31o2 (.one f7r31o3 (.one f7r31o4 (.alt (.one f7r31o5 (.one f7r31o7 (.one f7r31o8 .done))) (.alt (.one f7r31o7 (.one f7r31o5 (.one f7r31o8 .done))) .top)))))))) := by kernel_rfl
def f7b32 : AQ := (.seq (.tree f7r31 [[], [], [0, 1, 1], [2], [3], [3], [], [6, 4, 2, 0, 1, 2, 3, 4, 6], [5, 7, 0, 1, 2, 3, 4, 5, 6, 7]]) (.keep [1, 2, 3, 4, 5, 6, 7] [1, 2, 4, 6, 21, 24, 25, 30, 31, 36, 37, 22000, 22001, 22002, 25000, 25001, 25002, 26000, 26001, 26002, 31000, 31001, 31002, 32000, 32001, 32002, 37000, 37001, 37002, 38000, 38001, 38002] f7b30))
def f7r33o0 : AI := ⟨none, (.load 29 4 true (.t 1))⟩
def f7r33o1 : AI := ⟨none, (.call (some 30) 23 [(.v (.k (.c (.int .i64 15)))), (.v (.k (.c (.int .i64 1))))])⟩
def f7r33o2 : AI := ⟨none, (.call (some 31) 9 [(.t 29), (.v (.k (.c (.int .i64 2)))), (.t 30)])⟩
def f7r33o3 : AI := ⟨none, (.mov 28 (.t 31))⟩
def f7r33o4 : AI := ⟨none, (.extr 32 (.t 28) 0)⟩
def f7r33o5 : AI := ⟨none, (.extr 33 (.t 28) 1)⟩
def f7r33o6 : AI := ⟨none, (.alloc 4 30 [(.bool false), (.int .i64 0)])⟩
def f7r33o7 : AI := ⟨none, (.store 2 (.t 4) (.t 32))⟩
def f7r33o8 : AI := ⟨none, (.mov 5 (.t 33))⟩
def f7r33 : List AI := [f7r33o0, f7r33o1, f7r33o2, f7r33o3, f7r33o4, f7r33o5, f7r33o6, f7r33o7, f7r33o8]
theorem utf7r33 : treeOf f7r33 [[], [], [0, 1, 1], [2], [3], [3], [], [6, 4, 2, 0, 1, 2, 3, 4, 6], [5, 7, 0, 1, 2, 3, 4, 5, 6, 7]] = (.one f7r33o6 (.one f7r33o0 (.one f7r33o1 (.one f7r33o2 (.one f7r33o3 (.one f7r33o4 (.alt (.one f7r33o5 (.one f7r33o7 (.one f7r33o8 .done))) (.alt (.one f7r33o7 (.one f7r33o5 (.one f7r33o8 .done))) .top)))))))) := by kernel_rfl
def f7b34 : AQ := (.seq (.tree f7r33 [[], [], [0, 1, 1], [2], [3], [3], [], [6, 4, 2, 0, 1, 2, 3, 4, 6], [5, 7, 0, 1, 2, 3, 4, 5, 6, 7]]) (.keep [1, 2, 3, 4, 5] [1, 2, 4, 21, 24, 25, 30, 31, 22000, 22001, 22002, 25000, 25001, 25002, 26000, 26001, 26002, 31000, 31001, 31002, 32000, 32001, 32002] f7b32))
def f7r35o0 : AI := ⟨none, (.load 23 4 true (.t 1))⟩
def f7r35o1 : AI := ⟨none, (.call (some 24) 23 [(.v (.k (.c (.int .i64 15)))), (.v (.k (.c (.int .i64 0))))])⟩
def f7r35o2 : AI := ⟨none, (.call (some 25) 9 [(.t 23), (.v (.k (.c (.int .i64 2)))), (.t 24)])⟩
def f7r35o3 : AI := ⟨none, (.mov 22 (.t 25))⟩
def f7r35o4 : AI := ⟨none, (.extr 26 (.t 22) 0)⟩
def f7r35o5 : AI := ⟨none, (.extr 27 (.t 22) 1)⟩
def f7r35o6 : AI := ⟨none, (.alloc 2 30 [(.bool false), (.int .i64 0)])⟩
def f7r35o7 : AI := ⟨none, (.store 2 (.t 2) (.t 26))⟩
def f7r35o8 : AI := ⟨none, (.mov 3 (.t 27))⟩
def f7r35 : List AI := [f7r35o0, f7r35o1, f7r35o2, f7r35o3, f7r35o4, f7r35o5, f7r35o6, f7r35o7, f7r35o8]
theorem utf7r35 : treeOf f7r35 [[], [], [0, 1, 1], [2], [3], [3], [], [6, 4, 2, 0, 1, 2, 3, 4, 6], [5, 7, 0, 1, 2, 3, 4, 5, 6, 7]] = (.one f7r35o6 (.one f7r35o0 (.one f7r35o1 (.one f7r35o2 (.one f7r35o3 (.one f7r35o4 (.alt (.one f7r35o5 (.one f7r35o7 (.one f7r35o8 .done))) (.alt (.one f7r35o7 (.one f7r35o5 (.one f7r35o8 .done))) .top)))))))) := by kernel_rfl
def f7b36 : AQ := (.seq (.tree f7r35 [[], [], [0, 1, 1], [2], [3], [3], [], [6, 4, 2, 0, 1, 2, 3, 4, 6], [5, 7, 0, 1, 2, 3, 4, 5, 6, 7]]) (.keep [1, 2, 3] [1, 2, 21, 24, 25, 22000, 22001, 22002, 25000, 25001, 25002, 26000, 26001, 26002] f7b34))
def f7r37 : List AI := [⟨none, (.call (some 21) 22 [])⟩, ⟨none, (.alloc 1 25 [(.str []), (.bool false), (.list 0 (some true) []), (.list 0 (some true) [])])⟩, ⟨none, (.store 4 (.t 1) (.t 21))⟩]
def f7b38 : AQ := (.seq (.region f7r37) f7b36)
def f7r39 : List AI := [⟨none, (.mov 0 (.v (.k (.c (.bool false)))))⟩]
def f7b40 : AQ := (.seq (.region f7r39) f7b38)
def f7 : AQ := f7b40
theorem hf7 : cFunc Tryd.prog 7 = some ⟨145, f7.erase, [(RX.t 0)]⟩ := by kernel_rfl
theorem okf7 : f7.ok = true := by kernel_rfl
end Go.Abs


namespace Go.Abs
theorem wrap_in {n : Int} (h1 : -9223372036854775808 ≤ n) (h2 : n ≤ 9223372036854775807) : IntKind.i64.wrap n = n := IntWalk.i64_in n ⟨h1, h2⟩
def lstC (sz : Nat) (rows : List (List C)) : C := .list (if rows.isEmpty then 0 else sz) none rows
abbrev lst (sz : Nat) (rows : List (List C)) : V := .k (.c (lstC sz rows))
def ints (l : List Int) : List (List C) := l.map fun n => [.int .i64 n]
theorem map_isEmpty {α β : Type} (f : α → β) (l : List α) : (l.map f).isEmpty = l.isEmpty := by cases l <;> rfl
theorem sz_of {α : Type} {l : List α} {i sz : Nat} (h : i < l.length) : (if l.isEmpty = true then 0 else sz) = sz := by cases l <;> simp at h ⊢
theorem map_at {α : Type} {f : α → List C} {l : List α} {i : Nat} (h : i < l.length) : (l.map f).getD i [] = f l[i] := by simp [h]
theorem map_len {α : Type} (f : α → List C) (l : List α) : (l.map f).length = l.length := by simp
theorem normRows_eq {α : Type} {f : α → List C} (hf : ∀ x, C.normRow (f x) = f x) (l : List α) : C.normRows (l.map f) = l.map f := by
  induction l with
  | nil => rfl
  | cons a l ih => simp [C.normRows, hf, ih]
theorem lstC_norm {α : Type} {f : α → List C} (hf : ∀ x, C.normRow (f x) = f x) (sz : Nat) (l : List α) : (lstC sz (l.map f)).norm = lstC sz (l.map f) := by
  unfold lstC
  simp only [C.norm, normRows_eq hf]
  cases l <;> simp
inductive Term where
  | mk (op n : Int) (args : List Term)
  deriving Inhabited
def Term.op : Term → Int | .mk o _ _ => o
def Term.n : Term → Int | .mk _ n _ => n
def Term.args : Term → List Term | .mk _ _ a => a
mutual
def encT : Term → List C
  | .mk o n a => [.int .i64 o, .int .i64 n, lstC 3 (encTs a)]
def encTs : List Term → List (List C)
  | [] => []
  | t :: l => encT t :: encTs l
end
theorem encTs_map : ∀ (l : List Term), encTs l = l.map encT
  | [] => rfl
  | t :: l => by simp [encTs, encTs_map l]
theorem encT_eq (t : Term) : encT t = [.int .i64 t.op, .int .i64 t.n, lstC 3 (t.args.map encT)] := by
  cases t with
  | mk o n a => simp [encT, Term.op, Term.n, Term.args, encTs_map]
mutual
theorem encT_norm : ∀ (t : Term), C.normRow (encT t) = encT t
  | .mk o n a => by
    simp only [encT, C.normRow, C.norm, lstC, encTs_norm a]
    cases a <;> simp [encTs]
theorem encTs_norm : ∀ (l : List Term), C.normRows (encTs l) = encTs l
  | [] => rfl
  | t :: l => by simp only [encTs, C.normRows, encT_norm t, encTs_norm l]
end
theorem encT_len (t : Term) : (encT t).length = 3 := by rw [encT_eq]; rfl
structure Choice where
  ask : Int
  by_ : Int
  whole : Bool
  deriving Inhabited
structure Rule where
  ask : Int
  term : Term
  deriving Inhabited
structure Order where
  name : List UInt8
  accepts : Bool
  choices : List Choice
  rules : List Rule
  deriving Inhabited
def encChoice (c : Choice) : List C := [.int .i64 c.ask, .int .i64 c.by_, .bool c.whole]
def encRule (r : Rule) : List C := .int .i64 r.ask :: encT r.term
def encOrder (o : Order) : List C := [.str o.name, .bool o.accepts, lstC 3 (o.choices.map encChoice), lstC 4 (o.rules.map encRule)]
theorem encChoice_norm (c : Choice) : C.normRow (encChoice c) = encChoice c := rfl
theorem encRule_norm (r : Rule) : C.normRow (encRule r) = encRule r := by simp [encRule, C.normRow, C.norm, encT_norm]
theorem encOrder_norm (o : Order) : C.normRow (encOrder o) = encOrder o := by
  simp only [encOrder, C.normRow, C.norm, lstC_norm encChoice_norm, lstC_norm encRule_norm]
structure Cell where
  known : Bool
  n : Int
  deriving Inhabited
def encCell (c : Cell) : List C := [.bool c.known, .int .i64 c.n]
theorem encCell_norm (c : Cell) : C.normRow (encCell c) = encCell c := rfl
def encI (n : Int) : List C := [.int .i64 n]
@[simp] theorem normRow_int (k : IntKind) (n : Int) : C.normRow [.int k n] = [.int k n] := rfl
@[simp] theorem normRow_encI (n : Int) : C.normRow (encI n) = encI n := rfl
attribute [simp] encT_norm encChoice_norm encRule_norm encOrder_norm encCell_norm C.normRow
@[simp] theorem norm_int (k : IntKind) (n : Int) : (C.int k n).norm = .int k n := rfl
@[simp] theorem norm_bool (b : Bool) : (C.bool b).norm = .bool b := rfl
@[simp] theorem norm_str (s : List UInt8) : (C.str s).norm = .str s := rfl
@[simp] theorem norm_ro (row : List C) (off : Nat) : (C.ro row off).norm = .ro (C.normRow row) off := rfl
@[simp] theorem norm_fn (f : FuncId) (caps : List C) : (C.fn f caps).norm = .fn f (C.normRow caps) := rfl
@[simp] theorem normRows_T (l : List Term) : C.normRows (l.map encT) = l.map encT := normRows_eq encT_norm l
@[simp] theorem normRows_Ch (l : List Choice) : C.normRows (l.map encChoice) = l.map encChoice := normRows_eq encChoice_norm l
@[simp] theorem normRows_R (l : List Rule) : C.normRows (l.map encRule) = l.map encRule := normRows_eq encRule_norm l
@[simp] theorem normRows_O (l : List Order) : C.normRows (l.map encOrder) = l.map encOrder := normRows_eq encOrder_norm l
@[simp] theorem normRows_Ce (l : List Cell) : C.normRows (l.map encCell) = l.map encCell := normRows_eq encCell_norm l
@[simp] theorem normRows_ints (l : List Int) : C.normRows (ints l) = ints l := normRows_eq (fun _ => rfl) l
@[simp] theorem normRows_nil : C.normRows [] = [] := rfl
@[simp] theorem normRows_cons (r : List C) (l : List (List C)) : C.normRows (r :: l) = C.normRow r :: C.normRows l := rfl
@[simp] theorem ints_len (l : List Int) : (ints l).length = l.length := by simp [ints]
theorem ints_at {l : List Int} {i : Nat} (h : i < l.length) : (ints l).getD i [] = [.int .i64 l[i]] := by simp [ints, h]
@[simp] theorem ints_isEmpty (l : List Int) : (ints l).isEmpty = l.isEmpty := by cases l <;> rfl
theorem ints_snoc (l : List Int) (n : Int) : ints l ++ [[.int .i64 n]] = ints (l ++ [n]) := by simp [ints]
theorem ints_append (l m : List Int) : ints l ++ ints m = ints (l ++ m) := by simp [ints]
theorem r_vLen_lst (o : Nat → Option O) (sz : Nat) (rows : List (List C)) : vLen o (.k (.c (lstC sz rows))) = some (True, .int .i64 rows.length) := rfl
theorem r_vIaddr_lst (o : Nat → Option O) (sz : Nat) (rows : List (List C)) (k : IntKind) (n : Int) : vIaddr o sz (.k (.c (lstC sz rows))) (.k (.c (.int k n))) = some (0 ≤ n ∧ n < rows.length, .k (.pel sz rows n.toNat 0)) := by
  simp only [lstC, vIaddr, Option.some.injEq, Prod.mk.injEq]
  cases rows with
  | nil => simp; omega
  | cons a l =>
    refine ⟨?_, ?_⟩
    · simp
    · simp
theorem r_srcV_lst (os : OS) (sz : Nat) (rows : List (List C)) : srcV os sz (.k (.c (lstC sz rows))) = some (True, rows) := by
  simp only [lstC, srcV]
  cases rows <;> simp
@[simp] theorem norm_lst (sz : Nat) (rows : List (List C)) : (lstC sz rows).norm = lstC sz (C.normRows rows) := by
  unfold lstC
  simp only [C.norm]
  cases rows <;> simp [C.normRows]
@[simp] theorem norm_list (sz : Nat) (nl : Option Bool) (rows : List (List C)) : (C.list sz nl rows).norm = lstC sz (C.normRows rows) := by
  unfold lstC
  simp only [C.norm]
  cases rows <;> simp [C.normRows]
theorem r_ofRow_map (r : List C) : ofRow true (r.map Abs.K.c) = .agg r := by
  simp only [ofRow, pureRow_map, if_true]
theorem r_ofRow_take {r : List C} {n : Nat} (h : r.length = n) : ofRow true (List.take n (r.map Abs.K.c)) = .agg r := by
  rw [List.take_of_length_le (by simp; omega)]; exact r_ofRow_map r
theorem r_all_noRef (d : Nat) (r : List C) : (r.map Abs.K.c).all (Abs.K.noRef d) = true := by induction r <;> simp_all [Abs.K.noRef]
theorem r_map_scrub (τ : Nat) (r : List C) : (r.map Abs.K.c).map (Abs.K.scrub τ) = r.map Abs.K.c := by simp [Abs.K.scrub]
theorem r_map_nrm (r : List C) : (r.map Abs.K.c).map Abs.K.nrm = (C.normRow r).map Abs.K.c := by
  induction r with
  | nil => rfl
  | cons a r ih => simp only [List.map_cons, ih]; rfl
theorem r_map_frz (τ : Nat) (ob : O) (r : List C) : (r.map Abs.K.c).map (Abs.K.frz τ ob) = r.map Abs.K.c := by simp [Abs.K.frz]
theorem encRule_len (r : Rule) : (encRule r).length = 4 := by simp [encRule, encT_len]
theorem encOrder_len (r : Order) : (encOrder r).length = 4 := by simp [encOrder]
theorem encChoice_len (r : Choice) : (encChoice r).length = 3 := by simp [encChoice]
theorem encCell_len (r : Cell) : (encCell r).length = 2 := by simp [encCell]
theorem f_rule0 (r : Rule) : ofRow false (List.take 1 (List.map Abs.K.c (encRule r))) = .k (.c (.int .i64 r.ask)) := rfl
theorem g_rule0 (r : Rule) : (encRule r).getD 0 default = .int .i64 r.ask := rfl
theorem g_rule1 (r : Rule) : List.take 3 (List.drop 1 (encRule r)) = encT r.term := by
  have : List.drop 1 (encRule r) = encT r.term := rfl
  rw [this, List.take_of_length_le (by rw [encT_len]; omega)]
theorem f_ch0 (c : Choice) : ofRow false (List.take 1 (List.map Abs.K.c (encChoice c))) = .k (.c (.int .i64 c.ask)) := rfl
theorem g_ch0 (c : Choice) : (encChoice c).getD 0 default = .int .i64 c.ask := rfl
theorem f_or2 (o : Order) : ofRow false (List.take 1 (List.drop 2 (List.map Abs.K.c (encOrder o)))) = .k (.c (lstC 3 (o.choices.map encChoice))) := rfl
theorem f_or3 (o : Order) : ofRow false (List.take 1 (List.drop 3 (List.map Abs.K.c (encOrder o)))) = .k (.c (lstC 4 (o.rules.map encRule))) := rfl
theorem len_rules {o : Order} {l : List V} (hm : V.agg (encOrder o) ∈ l) (h : ∀ v, v ∈ l → ∀ c, c ∈ v.topC → ∀ sz nl rows, c = .list sz nl rows → rows.length ≤ 9223372036854775807) :
    o.choices.length ≤ 9223372036854775807 ∧ o.rules.length ≤ 9223372036854775807 := by
  refine ⟨?_, ?_⟩
  · have := h _ hm (lstC 3 (o.choices.map encChoice)) (by simp [V.topC, encOrder]) _ _ _ rfl
    simpa using this
  · have := h _ hm (lstC 4 (o.rules.map encRule)) (by simp [V.topC, encOrder]) _ _ _ rfl
    simpa using this
theorem len_lst {sz : Nat} {rows : List (List C)} {l : List V} (hm : lst sz rows ∈ l) (h : ∀ v, v ∈ l → ∀ c, c ∈ v.topC → ∀ sz nl rows, c = .list sz nl rows → rows.length ≤ 9223372036854775807) : rows.length ≤ 9223372036854775807 :=
  h _ hm (lstC sz rows) (by simp [V.topC]) _ _ _ rfl
theorem b_tf : (true == false) = false := id rfl
theorem b_ft : (false == true) = false := id rfl
section
variable {P : Program} {f : FuncId} {vs : List V} {K : KK} {d : Nat} {ts : TS} {os : OS}
theorem call_s {args : List V} {r : V} {X : Prop} (hs : Spec P f args (fun r' => r' = r)) (hk : K (insT d r ts) os)
    (hp : vs.all (fun v => (lendL os v).isPure) = true := by simp [lendL, lendO, lookO, V.isPure])
    (ha : vs.map (fun v => (lendL os v).norm) = args := by simp [lendL, lendO, lookO, V.norm, encT_eq, encRule, encOrder, encChoice, encCell, norm_list, lst]) (hr : r.scalar = true := by rfl) : callK P f vs [] K (some d) ts os ∨ X := by
  refine .inl ⟨hp, r, .inl ?_, ?_⟩
  · simpa [ha] using hs
  · rw [if_pos hr]; exact hk
theorem call_c {cs : List C} {args : List V} {r : V} {X : Prop} (hs : Spec P f args (fun r' => r' = r)) (hk : K (insT d r ts) os)
    (hp : vs.all (fun v => (lendL os v).isPure) = true := by simp [lendL, lendO, lookO, V.isPure])
    (ha : (vs.map (fun v => (lendL os v).norm) ++ cs.map fun c => .k (.c c.norm)) = args := by simp [lendL, lendO, lookO, V.norm, encT_eq, encRule, encOrder, encChoice, encCell, norm_list, lst]) (hr : r.scalar = true := by rfl) : callK P f vs cs K (some d) ts os ∨ X := by
  refine .inl ⟨hp, r, .inl (by rw [ha]; exact hs), ?_⟩
  rw [if_pos hr]; exact hk
theorem call_r {args : List V} {r : V} {X : Prop} (hs : Spec P f args (fun r' => r' = r)) (hk : retK r K ts os (some d))
    (hp : vs.all (fun v => (lendL os v).isPure) = true := by simp [lendL, lendO, lookO, V.isPure])
    (ha : vs.map (fun v => (lendL os v).norm) = args := by simp [lendL, lendO, lookO, V.norm, encT_eq, encRule, encOrder, encChoice, encCell, norm_list, lst])
    (ht : vs.all (fun v => v.toks.isEmpty) = true := by simp [V.toks, K.toks]) (hr : r.scalar = false := by rfl) : callK P f vs [] K (some d) ts os ∨ X := by
  refine .inl ⟨hp, r, .inl (by simpa [ha] using hs), ?_⟩
  rw [if_neg (by simp [hr])]
  exact ⟨ht, hk⟩
theorem call_l {args : List V} {e sz : Nat} {nl : Option Bool} {rows : List (List C)} {X : Prop} (hs : Spec P f args (fun r' => r' = .k (.newl e sz nl rows))) (hk : K (insT d (.k (.own d)) ts) (insO d (.arr e sz nl rows) os))
    (hp : vs.all (fun v => (lendL os v).isPure) = true := by simp [lendL, lendO, lookO, V.isPure])
    (ha : vs.map (fun v => (lendL os v).norm) = args := by simp [lendL, lendO, lookO, V.norm, encT_eq, encRule, encOrder, encChoice, encCell, norm_list, lst])
    (ht : vs.all (fun v => v.toks.isEmpty) = true := by simp [V.toks, K.toks]) (hf : freeB d ts os := by first | rfl | simp [freeB, freeT, freeO, V.noRef, V.noRefL, O.noRef, Abs.K.noRef, r_all_noRef]) : callK P f vs [] K (some d) ts os ∨ X := by
  refine .inl ⟨hp, _, .inl (by simpa [ha] using hs), ?_⟩
  rw [if_neg (by simp [V.scalar])]
  refine ⟨ht, ?_⟩
  show regK _ _ _ _ _ _
  refine ⟨⟨⟨hf, .inl rfl⟩, trivial⟩, hk⟩
theorem callQ_s {args : List V} {r : V} (hs : Spec P f args (fun r' => r' = r)) (hk : K (insT d r.fz ts) os)
    (hp : vs.all (fun v => (lendL os v).isPure) = true := by simp [lendL, lendO, lookO, V.isPure])
    (ha : vs.map (fun v => (lendL os v).norm) = args := by simp [lendL, lendO, lookO, V.norm, encT_eq, encRule, encOrder, encChoice, encCell, norm_list, lst]) (hr : r.scalar = true := by rfl) : callQK P f vs [] K d ts os :=
  ⟨hp, r, by simpa [ha] using hs, .inl hr, hk⟩
theorem callQ_l {args : List V} {r : V} (hs : Spec P f args (fun r' => r' = r)) (hk : K (insT d r.fz ts) os)
    (hp : vs.all (fun v => (lendL os v).isPure) = true := by simp [lendL, lendO, lookO, V.isPure])
    (ha : vs.map (fun v => (lendL os v).norm) = args := by simp [lendL, lendO, lookO, V.norm, encT_eq, encRule, encOrder, encChoice, encCell, norm_list, lst]) (hr : vs.all (fun v => v.toks.isEmpty) = true := by simp [V.toks, K.toks]) : callQK P f vs [] K d ts os :=
  ⟨hp, r, by simpa [ha] using hs, .inr hr, hk⟩
theorem call_scalar {args : List V} {r : V} {X : Prop} (hs : Spec P f args (fun r' => r' = r)) (hp : vs.all (fun v => (lendL os v).isPure) = true) (ha : vs.map (fun v => (lendL os v).norm) = args) (hr : r.scalar = true)
    (hk : K (insT d r ts) os) : callK P f vs [] K (some d) ts os ∨ X := by
  refine .inl ⟨hp, r, .inl ?_, ?_⟩
  · simpa [ha] using hs
  · rw [if_pos hr]; exact hk
theorem callQ_scalar {args : List V} {r : V} (hs : Spec P f args (fun r' => r' = r)) (hp : vs.all (fun v => (lendL os v).isPure) = true) (ha : vs.map (fun v => (lendL os v).norm) = args) (hr : r.scalar = true)
    (hk : K (insT d r.fz ts) os) : callQK P f vs [] K d ts os :=
  ⟨hp, r, by simpa [ha] using hs, .inl hr, hk⟩
end
end Go.Abs


set_option maxRecDepth 100000
namespace Go.Abs
theorem Qs : ((((((((type_of% @q_insT_eq_1 ∧ type_of% @lookT_here) ∧ (type_of% @q_look_eq_1 ∧ type_of% @true_and)) ∧ ((type_of% @lookT_next ∧ type_of% @q_wpLs_eq_2) ∧ (type_of% @q_wpL_eq_1 ∧ (type_of% @q_wpLs_eq_1 ∧ type_of% @q_AE_thenL_eq_1)))) ∧ (((type_of% @q_putK_eq_1 ∧ type_of% @q_exL_eq_1) ∧ (type_of% @q_awl_eq_5 ∧ type_of% @q_awl_eq_2)) ∧ ((type_of% @Nat.zero_add ∧ type_of% @q_List_map_nil) ∧ (type_of% @and_self ∧ (type_of% @q_List_map_cons ∧ type_of% @q_look_eq_2))))) ∧ ((((type_of% @lookO_here ∧ type_of% @Nat.le_refl) ∧ (type_of% @q_awl_eq_6 ∧ type_of% @q_learn_eq_1)) ∧ ((type_of% @q_condK_eq_1 ∧ type_of% @q_mapT_eq_1) ∧ (type_of% @q_mapT_eq_2 ∧ (type_of% @q_mapO_eq_1 ∧ type_of% @q_vBin_eq_1)))) ∧ (((type_of% @q_resV_eq_1 ∧ type_of% @q_binV_eq_1) ∧ (type_of% @q_binInt_eq_3 ∧ (type_of% @q_List_drop_zero ∧ type_of% @q_exL_eq_11))) ∧ ((type_of% @q_resL_eq_1 ∧ type_of% @q_V_nrm_eq_1) ∧ (type_of% @q_K_nrm_eq_1 ∧ (type_of% @q_C_norm_eq_4 ∧ type_of% @q_awl_eq_10)))))) ∧ (((((type_of% @q_endK_eq_2 ∧ type_of% @q_endL_eq_1) ∧ (type_of% @q_endV_eq_1 ∧ type_of% @q_resL_eq_2)) ∧ ((type_of% @q_C_norm_eq_5 ∧ type_of% @q_insO_eq_1) ∧ (type_of% @q_List_length_nil ∧ (type_of% @q_List_length_cons ∧ type_of% @q_exL_eq_8)))) ∧ (((type_of% @q_mapO_eq_2 ∧ type_of% @q_List_take_zero) ∧ (type_of% @q_loadO_eq_1 ∧ (type_of% @q_isV_eq_1 ∧ type_of% @q_vLoad_eq_1))) ∧ ((type_of% @q_K_nrm_eq_3 ∧ type_of% @q_O_nrm_eq_1) ∧ (type_of% @q_condB_eq_1 ∧ (type_of% @q_awl_eq_1 ∧ type_of% @q_List_drop_succ_cons))))) ∧ ((((type_of% @lookO_next ∧ type_of% @q_List_take_succ_cons) ∧ (type_of% @q_condB_eq_2 ∧ type_of% @q_resX_eq_1)) ∧ ((type_of% @q_V_owns_eq_1 ∧ type_of% @q_V_toNew_eq_1) ∧ (type_of% @q_Option_map_some ∧ (type_of% @q_pureRow_eq_1 ∧ type_of% @q_pureRow_eq_2)))) ∧ (((type_of% @q_List_nil_append ∧ type_of% @q_AE_thenL_eq_3) ∧ (type_of% @q_V_nrm_eq_2 ∧ (type_of% @Bool.and_true ∧ type_of% @q_splice_eq_1))) ∧ ((type_of% @q_one_eq_1 ∧ type_of% @q_freeB_eq_1) ∧ (type_of% @q_freeT_eq_1 ∧ (type_of% @q_freeT_eq_2 ∧ type_of% @q_freeO_eq_1))))))) ∧ ((((((type_of% @Bool.or_true ∧ type_of% @q_stVarK_eq_1) ∧ (type_of% @q_storeK_eq_1 ∧ type_of% @not_false_eq_true)) ∧ ((type_of% @q_K_owns_eq_2 ∧ type_of% @q_K_toNew_eq_1) ∧ (type_of% @Bool.false_eq_true ∧ (type_of% @q_V_noRef_eq_1 ∧ type_of% @q_V_cells_eq_2)))) ∧ (((type_of% @q_K_noRef_eq_1 ∧ type_of% @q_exL_eq_9) ∧ (type_of% @norm_lst ∧ type_of% @q_exL_eq_28)) ∧ ((type_of% @q_V_noRef_eq_2 ∧ type_of% @q_C_normRow_eq_1) ∧ (type_of% @q_C_normRow_eq_2 ∧ (type_of% @q_exL_eq_21 ∧ type_of% @q_cutInt_eq_8))))) ∧ ((((type_of% @q_awl_eq_7 ∧ type_of% @q_isVarO_eq_1) ∧ (type_of% @Nat.add_zero ∧ type_of% @q_vFaddr_eq_1)) ∧ ((type_of% @q_ofRow_eq_2 ∧ type_of% @q_freeO_eq_2) ∧ (type_of% @Bool.false_or ∧ (type_of% @q_exL_eq_3 ∧ type_of% @q_initT_eq_1)))) ∧ (((type_of% @q_AOp_dst_eq_1 ∧ type_of% @q_initT_eq_2) ∧ (type_of% @q_K_noRef_eq_3 ∧ (type_of% @q_O_noRef_eq_1 ∧ type_of% @q_ofRow_eq_1))) ∧ ((type_of% @q_Bool_not_true ∧ type_of% @q_vPick_eq_1) ∧ (type_of% @q_exL_eq_30 ∧ (type_of% @normRows_Ce ∧ type_of% @q_exL_eq_4)))))) ∧ (((((type_of% @q_resX_eq_2 ∧ type_of% @q_resCell_eq_1) ∧ (type_of% @decide_false ∧ type_of% @q_V_owns_eq_4)) ∧ ((type_of% @q_V_toNew_eq_2 ∧ type_of% @q_exK_eq_1) ∧ (type_of% @q_cutInt_eq_6 ∧ (type_of% @r_vLen_lst ∧ type_of% @q_AOp_dst_eq_10)))) ∧ (((type_of% @q_List_all_cons ∧ type_of% @q_List_all_nil) ∧ (type_of% @q_Bool_not_false ∧ (type_of% @Bool.true_and ∧ type_of% @decide_true))) ∧ ((type_of% @q_AE_inBlockL_eq_3 ∧ type_of% @q_wpLQ_eq_1) ∧ (type_of% @q_guardP_eq_1 ∧ (type_of% @q_exL_eq_23 ∧ type_of% @r_ofRow_take))))) ∧ ((((type_of% @q_one_eq_2 ∧ type_of% @q_List_getElemQ_cons_zero) ∧ (type_of% @q_List_getElemQ_cons_succ ∧ type_of% @q_V_owns_eq_3)) ∧ ((type_of% @q_V_ownsL_eq_1 ∧ type_of% @q_V_ownsL_eq_2) ∧ (type_of% @q_V_toNew_eq_4 ∧ (type_of% @q_V_toNewL_eq_1 ∧ type_of% @q_V_toNewL_eq_2)))) ∧ (((type_of% @q_vExtr_eq_1 ∧ type_of% @normRows_T) ∧ (type_of% @Bool.and_eq_true ∧ (type_of% @q_guardP_eq_2 ∧ type_of% @q_vLoad_eq_2))) ∧ ((type_of% @r_map_nrm ∧ type_of% @q_freesL_eq_1) ∧ (type_of% @q_addsL_eq_1 ∧ (type_of% @q_regK_eq_1 ∧ type_of% @q_retK_eq_2)))))))) ∧ (((((((type_of% @q_AE_inBlockL_eq_1 ∧ type_of% @q_AOp_dst_eq_8) ∧ (type_of% @q_exL_eq_27 ∧ type_of% @q_vBuild_eq_1)) ∧ ((type_of% @q_rowV_eq_1 ∧ type_of% @q_V_reg_eq_4) ∧ (type_of% @q_exL_eq_6 ∧ (type_of% @encOrder_len ∧ type_of% @q_putDL_eq_1)))) ∧ (((type_of% @q_O_nrm_eq_2 ∧ type_of% @r_vIaddr_lst) ∧ (type_of% @q_regN_eq_2 ∧ type_of% @q_exL_eq_15)) ∧ ((type_of% @q_vUn_eq_1 ∧ type_of% @q_mapC_eq_1) ∧ (type_of% @q_lookO_eq_1 ∧ (type_of% @q_exL_eq_5 ∧ type_of% @q_boxK_eq_1))))) ∧ ((((type_of% @q_V_nrm_eq_5 ∧ type_of% @q_unV_eq_2) ∧ (type_of% @q_partV_eq_2 ∧ type_of% @q_exLQ_eq_1)) ∧ ((type_of% @q_AOp_dst_eq_20 ∧ type_of% @q_awl_eq_9) ∧ (type_of% @q_AE_thenL_eq_2 ∧ (type_of% @q_AE_inBlockL_eq_2 ∧ type_of% @r_all_noRef)))) ∧ (((type_of% @encOrder_norm ∧ type_of% @q_wpLQs_eq_2) ∧ (type_of% @q_partV_eq_1 ∧ (type_of% @Int.toNat_natCast ∧ type_of% @q_cutInt_eq_1))) ∧ ((type_of% @q_exLQ_eq_9 ∧ type_of% @q_cutInt_eq_7) ∧ (type_of% @false_implies ∧ (type_of% @q_K_nrm_eq_2 ∧ type_of% @q_List_getD_cons_zero)))))) ∧ (((((type_of% @q_exLQ_eq_29 ∧ type_of% @q_C_norm_eq_1) ∧ (type_of% @condB_beq ∧ type_of% @q_V_nrm_eq_4)) ∧ ((type_of% @q_V_nrmL_eq_1 ∧ type_of% @q_V_nrmL_eq_2) ∧ (type_of% @normRows_ints ∧ (type_of% @Int.natCast_nonneg ∧ type_of% @q_V_cells_eq_1)))) ∧ (((type_of% @q_List_cons_append ∧ type_of% @ints_len) ∧ (type_of% @q_C_normRows_eq_1 ∧ (type_of% @q_isArrO_eq_1 ∧ type_of% @q_AOp_dst_eq_22))) ∧ ((type_of% @q_vPick_eq_2 ∧ type_of% @and_true) ∧ (type_of% @q_K_noRef_eq_2 ∧ (type_of% @q_O_noRef_eq_2 ∧ type_of% @q_AOp_dst_eq_27))))) ∧ ((((type_of% @q_V_fz_eq_1 ∧ type_of% @q_vPick_eq_3) ∧ (type_of% @q_cutInt_eq_10 ∧ type_of% @condB_bne)) ∧ ((type_of% @q_vBuild_eq_2 ∧ type_of% @encT_norm) ∧ (type_of% @q_vFaddr_eq_3 ∧ (type_of% @q_List_foldl_nil ∧ type_of% @Int.toNat_zero)))) ∧ (((type_of% @q_V_noRef_eq_4 ∧ type_of% @q_V_noRefL_eq_1) ∧ (type_of% @q_V_noRefL_eq_2 ∧ (type_of% @q_awl_eq_3 ∧ type_of% @q_wpLT_eq_4))) ∧ ((type_of% @q_K_owns_eq_1 ∧ type_of% @q_K_toNew_eq_2) ∧ (type_of% @q_exL_eq_2 ∧ (type_of% @q_V_reg_eq_3 ∧ type_of% @q_V_regL_eq_1))))))) ∧ ((((((type_of% @q_V_regL_eq_2 ∧ type_of% @q_exLQ_eq_22) ∧ (type_of% @q_List_replicate_zero ∧ type_of% @q_exLQ_eq_24)) ∧ ((type_of% @q_List_foldl_cons ∧ type_of% @q_wpLQs_eq_1) ∧ (type_of% @q_vIaddr_eq_2 ∧ (type_of% @q_idxO_eq_1 ∧ type_of% @q_K_fz_eq_2)))) ∧ (((type_of% @encT_len ∧ type_of% @q_cutInt_eq_11) ∧ (type_of% @q_vLits_eq_1 ∧ type_of% @q_delO_eq_1)) ∧ ((type_of% @q_delO_eq_2 ∧ type_of% @Int.cast_ofNat_Int) ∧ (type_of% @q_K_noRef_eq_5 ∧ (type_of% @q_List_replicate_succ ∧ type_of% @q_cutInt_eq_2))))) ∧ ((((type_of% @q_List_isEmpty_nil ∧ type_of% @q_exL_eq_7) ∧ (type_of% @q_bsK_eq_1 ∧ type_of% @or_false)) ∧ ((type_of% @q_exKQ_eq_1 ∧ type_of% @q_AOp_dst_eq_3) ∧ (type_of% @q_AOp_dst_eq_14 ∧ (type_of% @q_loadO_eq_2 ∧ type_of% @q_isA_eq_1)))) ∧ (((type_of% @q_vLoad_eq_3 ∧ type_of% @f_or3) ∧ (type_of% @q_vLits_eq_2 ∧ (type_of% @q_List_set_cons_zero ∧ type_of% @q_exLQ_eq_3))) ∧ ((type_of% @q_V_scrub_eq_1 ∧ type_of% @q_K_scrub_eq_1) ∧ (type_of% @q_K_scrub_eq_5 ∧ (type_of% @normRows_R ∧ type_of% @Nat.succ_ne_self)))))) ∧ (((((type_of% @q_exLQ_eq_10 ∧ type_of% @not_true_eq_false) ∧ (type_of% @q_O_scrub_eq_2 ∧ type_of% @condB_decide)) ∧ ((type_of% @q_V_scrub_eq_3 ∧ type_of% @q_List_getD_cons_succ) ∧ (type_of% @q_vRow_eq_1 ∧ (type_of% @q_exL_eq_33 ∧ type_of% @q_appK_eq_1)))) ∧ (((type_of% @q_appendK_eq_1 ∧ type_of% @q_wpLT_eq_1) ∧ (type_of% @q_awl_eq_4 ∧ (type_of% @q_awl_eq_11 ∧ type_of% @q_keepT_eq_1))) ∧ ((type_of% @q_keepT_eq_2 ∧ type_of% @q_keepO_eq_1) ∧ (type_of% @q_keepO_eq_2 ∧ (type_of% @q_addO_eq_1 ∧ type_of% @q_addO_eq_2))))) ∧ ((((type_of% @q_V_fz_eq_2 ∧ type_of% @q_srcO_eq_1) ∧ (type_of% @q_srcV_eq_2 ∧ type_of% @q_AOp_dst_eq_12)) ∧ ((type_of% @q_vFaddr_eq_2 ∧ type_of% @q_K_fz_eq_1) ∧ (type_of% @q_nlApp_eq_2 ∧ (type_of% @q_K_scrub_eq_2 ∧ type_of% @q_O_scrub_eq_1)))) ∧ (((type_of% @Bool.true_or ∧ type_of% @q_wpLT_eq_3) ∧ (type_of% @q_wpLT_eq_5 ∧ (type_of% @q_vRow_eq_2 ∧ type_of% @q_AOp_dst_eq_32))) ∧ ((type_of% @q_pureRow_eq_3 ∧ type_of% @q_vLen_eq_2) ∧ (type_of% @q_lenO_eq_1 ∧ (type_of% @q_vEqAgg_eq_1 ∧ type_of% @q_exLQ_eq_4))))))))) := ⟨⟨⟨⟨⟨⟨⟨⟨@q_insT_eq_1, @lookT_here⟩, ⟨@q_look_eq_1, @true_and⟩⟩, ⟨⟨@lookT_next, @q_wpLs_eq_2⟩, ⟨@q_wpL_eq_1, ⟨@q_wpLs_eq_1, @q_AE_thenL_eq_1⟩⟩⟩⟩, ⟨⟨⟨@q_putK_eq_1, @q_exL_eq_1⟩, ⟨@q_awl_eq_5, @q_awl_eq_2⟩⟩, ⟨⟨@Nat.zero_add, @q_List_map_nil⟩, ⟨@and_self, ⟨@q_List_map_cons, @q_look_eq_2⟩⟩⟩⟩⟩, ⟨⟨⟨⟨@lookO_here, @Nat.le_refl⟩, ⟨@q_awl_eq_6, @q_learn_eq_1⟩⟩, ⟨⟨@q_condK_eq_1, @q_mapT_eq_1⟩, ⟨@q_mapT_eq_2, ⟨@q_mapO_eq_1, @q_vBin_eq_1⟩⟩⟩⟩, ⟨⟨⟨@q_resV_eq_1, @q_binV_eq_1⟩, ⟨@q_binInt_eq_3, ⟨@q_List_drop_zero, @q_exL_eq_11⟩⟩⟩, ⟨⟨@q_resL_eq_1, @q_V_nrm_eq_1⟩, ⟨@q_K_nrm_eq_1, ⟨@q_C_norm_eq_4, @q_awl_eq_10⟩⟩⟩⟩⟩⟩, ⟨⟨⟨⟨⟨@q_endK_eq_2, @q_endL_eq_1⟩, ⟨@q_endV_eq_1, @q_resL_eq_2⟩⟩, ⟨⟨@q_C_norm_eq_5, @q_insO_eq_1⟩, ⟨@q_List_length_nil, ⟨@q_List_length_cons, @q_exL_eq_8⟩⟩⟩⟩, ⟨⟨⟨@q_mapO_eq_2, @q_List_take_zero⟩, ⟨@q_loadO_eq_1, ⟨@q_isV_eq_1, @q_vLoad_eq_1⟩⟩⟩, ⟨⟨@q_K_nrm_eq_3, @q_O_nrm_eq_1⟩, ⟨@q_condB_eq_1, ⟨@q_awl_eq_1, @q_List_drop_succ_cons⟩⟩⟩⟩⟩, ⟨⟨⟨⟨@lookO_next, @q_List_take_succ_cons⟩, ⟨@q_condB_eq_2, @q_resX_eq_1⟩⟩, ⟨⟨@q_V_owns_eq_1, @q_V_toNew_eq_1⟩, ⟨@q_Option_map_some, ⟨@q_pureRow_eq_1, @q_pureRow_eq_2⟩⟩⟩⟩, ⟨⟨⟨@q_List_nil_append, @q_AE_thenL_eq_3⟩, ⟨@q_V_nrm_eq_2, ⟨@Bool.and_true, @q_splice_eq_1⟩⟩⟩, ⟨⟨@q_one_eq_1, @q_freeB_eq_1⟩, ⟨@q_freeT_eq_1, ⟨@q_freeT_eq_2, @q_freeO_eq_1⟩⟩⟩⟩⟩⟩⟩, ⟨⟨⟨⟨⟨⟨@Bool.or_true, @q_stVarK_eq_1⟩, ⟨@q_storeK_eq_1, @not_false_eq_true⟩⟩, ⟨⟨@q_K_owns_eq_2, @q_K_toNew_eq_1⟩, ⟨@Bool.false_eq_true, ⟨@q_V_noRef_eq_1, @q_V_cells_eq_2⟩⟩⟩⟩, ⟨⟨⟨@q_K_noRef_eq_1, @q_exL_eq_9⟩, ⟨@norm_lst, @q_exL_eq_28⟩⟩, ⟨⟨@q_V_noRef_eq_2, @q_C_normRow_eq_1⟩, ⟨@q_C_normRow_eq_2, ⟨@q_exL_eq_21, @q_cutInt_eq_8⟩⟩⟩⟩⟩, ⟨⟨⟨⟨@q_awl_eq_7, @q_isVarO_eq_1⟩, ⟨@Nat.add_zero, @q_vFaddr_eq_1⟩⟩, ⟨⟨@q_ofRow_eq_2, @q_freeO_eq_2⟩, ⟨@Bool.false_or, ⟨@q_exL_eq_3, @q_initT_eq_1⟩⟩⟩⟩, ⟨⟨⟨@q_AOp_dst_eq_1, @q_initT_eq_2⟩, ⟨@q_K_noRef_eq_3, ⟨@q_O_noRef_eq_1, @q_ofRow_eq_1⟩⟩⟩, ⟨⟨@q_Bool_not_true, @q_vPick_eq_1⟩, ⟨@q_exL_eq_30, ⟨@normRows_Ce, @q_exL_eq_4⟩⟩⟩⟩⟩⟩, ⟨⟨⟨⟨⟨@q_resX_eq_2, @q_resCell_eq_1⟩, ⟨@decide_false, @q_V_owns_eq_4⟩⟩, ⟨⟨@q_V_toNew_eq_2, @q_exK_eq_1⟩, ⟨@q_cutInt_eq_6, ⟨@r_vLen_lst, @q_AOp_dst_eq_10⟩⟩⟩⟩, ⟨⟨⟨@q_List_all_cons, @q_List_all_nil⟩, ⟨@q_Bool_not_false, ⟨@Bool.true_and, @decide_true⟩⟩⟩, ⟨⟨@q_AE_inBlockL_eq_3, @q_wpLQ_eq_1⟩, ⟨@q_guardP_eq_1, ⟨@q_exL_eq_23, @r_ofRow_take⟩⟩⟩⟩⟩, ⟨⟨⟨⟨@q_one_eq_2, @q_List_getElemQ_cons_zero⟩, ⟨@q_List_getElemQ_cons_succ, @q_V_owns_eq_3⟩⟩, ⟨⟨@q_V_ownsL_eq_1, @q_V_ownsL_eq_2⟩, ⟨@q_V_toNew_eq_4, ⟨@q_V_toNewL_eq_1, @q_V_toNewL_eq_2⟩⟩⟩⟩, ⟨⟨⟨@q_vExtr_eq_1, @normRows_T⟩, ⟨@Bool.and_eq_true, ⟨@q_guardP_eq_2, @q_vLoad_eq_2⟩⟩⟩, ⟨⟨@r_map_nrm, @q_freesL_eq_1⟩, ⟨@q_addsL_eq_1, ⟨@q_regK_eq_1, @q_retK_eq_2⟩⟩⟩⟩⟩⟩⟩⟩, ⟨⟨⟨⟨⟨⟨⟨@q_AE_inBlockL_eq_1, @q_AOp_dst_eq_8⟩, ⟨@q_exL_eq_27, @q_vBuild_eq_1⟩⟩, ⟨⟨@q_rowV_eq_1, @q_V_reg_eq_4⟩, ⟨@q_exL_eq_6, ⟨@encOrder_len, @q_putDL_eq_1⟩⟩⟩⟩, ⟨⟨⟨@q_O_nrm_eq_2, @r_vIaddr_lst⟩, ⟨@q_regN_eq_2, @q_exL_eq_15⟩⟩, ⟨⟨@q_vUn_eq_1, @q_mapC_eq_1⟩, ⟨@q_lookO_eq_1, ⟨@q_exL_eq_5, @q_boxK_eq_1⟩⟩⟩⟩⟩, ⟨⟨⟨⟨@q_V_nrm_eq_5, @q_unV_eq_2⟩, ⟨@q_partV_eq_2, @q_exLQ_eq_1⟩⟩, ⟨⟨@q_AOp_dst_eq_20, @q_awl_eq_9⟩, ⟨@q_AE_thenL_eq_2, ⟨@q_AE_inBlockL_eq_2, @r_all_noRef⟩⟩⟩⟩, ⟨⟨⟨@encOrder_norm, @q_wpLQs_eq_2⟩, ⟨@q_partV_eq_1, ⟨@Int.toNat_natCast, @q_cutInt_eq_1⟩⟩⟩, ⟨⟨@q_exLQ_eq_9, @q_cutInt_eq_7⟩, ⟨@false_implies, ⟨@q_K_nrm_eq_2, @q_List_getD_cons_zero⟩⟩⟩⟩⟩⟩, ⟨⟨⟨⟨⟨@q_exLQ_eq_29, @q_C_norm_eq_1⟩, ⟨@condB_beq, @q_V_nrm_eq_4⟩⟩, ⟨⟨@q_V_nrmL_eq_1, @q_V_nrmL_eq_2⟩, ⟨@normRows_ints, ⟨@Int.natCast_nonneg, @q_V_cells_eq_1⟩⟩⟩⟩, ⟨⟨⟨@q_List_cons_append, @ints_len⟩, ⟨@q_C_normRows_eq_1, ⟨@q_isArrO_eq_1, @q_AOp_dst_eq_22⟩⟩⟩, ⟨⟨@q_vPick_eq_2, @and_true⟩, ⟨@q_K_noRef_eq_2, ⟨@q_O_noRef_eq_2, @q_AOp_dst_eq_27⟩⟩⟩⟩⟩, ⟨⟨⟨⟨@q_V_fz_eq_1, @q_vPick_eq_3⟩, ⟨@q_cutInt_eq_10, @condB_bne⟩⟩, ⟨⟨@q_vBuild_eq_2, @encT_norm⟩, ⟨@q_vFaddr_eq_3, ⟨@q_List_foldl_nil, @Int.toNat_zero⟩⟩⟩⟩, ⟨⟨⟨@q_V_noRef_eq_4, @q_V_noRefL_eq_1⟩, ⟨@q_V_noRefL_eq_2, ⟨@q_awl_eq_3, @q_wpLT_eq_4⟩⟩⟩, ⟨⟨@q_K_owns_eq_1, @q_K_toNew_eq_2⟩, ⟨@q_exL_eq_2, ⟨@q_V_reg_eq_3, @q_V_regL_eq_1⟩⟩⟩⟩⟩⟩⟩, ⟨⟨⟨⟨⟨⟨@q_V_regL_eq_2, @q_exLQ_eq_22⟩, ⟨@q_List_replicate_zero, @q_exLQ_eq_24⟩⟩, ⟨⟨@q_List_foldl_cons, @q_wpLQs_eq_1⟩, ⟨@q_vIaddr_eq_2, ⟨@q_idxO_eq_1, @q_K_fz_eq_2⟩⟩⟩⟩, ⟨⟨⟨@encT_len, @q_cutInt_eq_11⟩, ⟨@q_vLits_eq_1, @q_delO_eq_1⟩⟩, ⟨⟨@q_delO_eq_2, @Int.cast_ofNat_Int⟩, ⟨@q_K_noRef_eq_5, ⟨@q_List_replicate_succ, @q_cutInt_eq_2⟩⟩⟩⟩⟩, ⟨⟨⟨⟨@q_List_isEmpty_nil, @q_exL_eq_7⟩, ⟨@q_bsK_eq_1, @or_false⟩⟩, ⟨⟨@q_exKQ_eq_1, @q_AOp_dst_eq_3⟩, ⟨@q_AOp_dst_eq_14, ⟨@q_loadO_eq_2, @q_isA_eq_1⟩⟩⟩⟩, ⟨⟨⟨@q_vLoad_eq_3, @f_or3⟩, ⟨@q_vLits_eq_2, ⟨@q_List_set_cons_zero, @q_exLQ_eq_3⟩⟩⟩, ⟨⟨@q_V_scrub_eq_1, @q_K_scrub_eq_1⟩, ⟨@q_K_scrub_eq_5, ⟨@normRows_R, @Nat.succ_ne_self⟩⟩⟩⟩⟩⟩, ⟨⟨⟨⟨⟨@q_exLQ_eq_10, @not_true_eq_false⟩, ⟨@q_O_scrub_eq_2, @condB_decide⟩⟩, ⟨⟨@q_V_scrub_eq_3, @q_List_getD_cons_succ⟩, ⟨@q_vRow_eq_1, ⟨@q_exL_eq_33, @q_appK_eq_1⟩⟩⟩⟩, ⟨⟨⟨@q_appendK_eq_1, @q_wpLT_eq_1⟩, ⟨@q_awl_eq_4, ⟨@q_awl_eq_11, @q_keepT_eq_1⟩⟩⟩, ⟨⟨@q_keepT_eq_2, @q_keepO_eq_1⟩, ⟨@q_keepO_eq_2, ⟨@q_addO_eq_1, @q_addO_eq_2⟩⟩⟩⟩⟩, ⟨⟨⟨⟨@q_V_fz_eq_2, @q_srcO_eq_1⟩, ⟨@q_srcV_eq_2, @q_AOp_dst_eq_12⟩⟩, ⟨⟨@q_vFaddr_eq_2, @q_K_fz_eq_1⟩, ⟨@q_nlApp_eq_2, ⟨@q_K_scrub_eq_2, @q_O_scrub_eq_1⟩⟩⟩⟩, ⟨⟨⟨@Bool.true_or, @q_wpLT_eq_3⟩, ⟨@q_wpLT_eq_5, ⟨@q_vRow_eq_2, @q_AOp_dst_eq_32⟩⟩⟩, ⟨⟨@q_pureRow_eq_3, @q_vLen_eq_2⟩, ⟨@q_lenO_eq_1, ⟨@q_vEqAgg_eq_1, @q_exLQ_eq_4⟩⟩⟩⟩⟩⟩⟩⟩⟩
end Go.Abs


namespace Go.Abs
section
variable {P : Program}
theorem shape_int {n : Nat} {t : TypeId} {r : List C} {k : IntKind} (hu : P.underlying t = some (.int k)) (h : Shape P n t r) : ∃ m : Int, r = [.int k m] ∧ (Lit.int k m).wf = true := by
  cases n with
  | zero => exact h.elim
  | succ n => simp only [Shape, hu] at h; exact h
theorem shape_bool {n : Nat} {t : TypeId} {r : List C} (hu : P.underlying t = some .bool) (h : Shape P n t r) : ∃ b : Bool, r = [.bool b] := by
  cases n with
  | zero => exact h.elim
  | succ n => simp only [Shape, hu] at h; exact h
theorem shape_str {n : Nat} {t : TypeId} {r : List C} (hu : P.underlying t = some .string) (h : Shape P n t r) : ∃ s : List UInt8, r = [.str s] ∧ s.length ≤ 9223372036854775807 := by
  cases n with
  | zero => exact h.elim
  | succ n => simp only [Shape, hu] at h; exact h
theorem shape_slice {n : Nat} {t e : TypeId} {r : List C} (hu : P.underlying t = some (.slice e)) (h : Shape P n t r) : ∃ m rows, n = m + 1 ∧ r = [lstC (P.cellsOf e) rows] ∧ rows.length ≤ 9223372036854775807 ∧ ∀ x ∈ rows, Shape P m e x := by
  cases n with
  | zero => exact h.elim
  | succ n => simp only [Shape, hu] at h; obtain ⟨rows, h1, h2, h3⟩ := h; exact ⟨n, rows, rfl, h1, h2, h3⟩
theorem shape_struct {n : Nat} {t : TypeId} {fs : Array Field} {r : List C} (hu : P.underlying t = some (.struct fs)) (h : Shape P n t r) : ∃ m rs, n = m + 1 ∧ r = rs.flatten ∧ ShapeL (Shape P m) (fs.toList.map (·.type)) rs := by
  cases n with
  | zero => exact h.elim
  | succ n => simp only [Shape, hu] at h; obtain ⟨rs, h1, h2⟩ := h; exact ⟨n, rs, rfl, h1, h2⟩
theorem shapeL2 {S : TypeId → List C → Prop} {a b : TypeId} {rs : List (List C)} (h : ShapeL S [a, b] rs) : ∃ x y, rs = [x, y] ∧ S a x ∧ S b y := by
  match rs, h with
  | [x, y], h => exact ⟨x, y, rfl, h.1, h.2.1⟩
theorem shapeL3 {S : TypeId → List C → Prop} {a b c : TypeId} {rs : List (List C)} (h : ShapeL S [a, b, c] rs) : ∃ x y z, rs = [x, y, z] ∧ S a x ∧ S b y ∧ S c z := by
  match rs, h with
  | [x, y, z], h => exact ⟨x, y, z, rfl, h.1, h.2.1, h.2.2.1⟩
theorem shapeL4 {S : TypeId → List C → Prop} {a b c d : TypeId} {rs : List (List C)} (h : ShapeL S [a, b, c, d] rs) : ∃ x y z u, rs = [x, y, z, u] ∧ S a x ∧ S b y ∧ S c z ∧ S d u := by
  match rs, h with
  | [x, y, z, u], h => exact ⟨x, y, z, u, rfl, h.1, h.2.1, h.2.2.1, h.2.2.2.1⟩
theorem rows_of {α : Type} {S : List C → Prop} (enc : α → List C) (hS : ∀ r, S r → ∃ a, r = enc a) : ∀ (rows : List (List C)), (∀ r ∈ rows, S r) → ∃ l : List α, rows = l.map enc
  | [], _ => ⟨[], rfl⟩
  | r :: rows, h => by
    obtain ⟨a, ha⟩ := hS r (h r (by simp))
    obtain ⟨l, hl⟩ := rows_of enc hS rows (fun x hx => h x (by simp [hx]))
    exact ⟨a :: l, by rw [ha, hl]; rfl⟩
structure TermTypes (P : Program) (tI tB tS tT tLT tR tLR tC tLC tO : TypeId) : Prop where
  i : P.underlying tI = some (.int .i64)
  b : P.underlying tB = some .bool
  s : P.underlying tS = some .string
  t : ∃ fs, P.underlying tT = some (.struct fs) ∧ fs.toList.map (·.type) = [tI, tI, tLT]
  lt : P.underlying tLT = some (.slice tT) ∧ P.cellsOf tT = 3
  r : ∃ fs, P.underlying tR = some (.struct fs) ∧ fs.toList.map (·.type) = [tI, tT]
  lr : P.underlying tLR = some (.slice tR) ∧ P.cellsOf tR = 4
  c : ∃ fs, P.underlying tC = some (.struct fs) ∧ fs.toList.map (·.type) = [tI, tI, tB]
  lc : P.underlying tLC = some (.slice tC) ∧ P.cellsOf tC = 3
  o : ∃ fs, P.underlying tO = some (.struct fs) ∧ fs.toList.map (·.type) = [tS, tB, tLC, tLR]
variable {tI tB tS tT tLT tR tLR tC tLC tO : TypeId}
theorem shape_term (h : TermTypes P tI tB tS tT tLT tR tLR tC tLC tO) : ∀ (n : Nat) (r : List C), Shape P n tT r → ∃ t : Term, r = encT t := by
  intro n
  induction n using Nat.strongRecOn with
  | ind n ih =>
    intro r hr
    obtain ⟨fs, hf, hl⟩ := h.t
    obtain ⟨m, rs, rfl, rfl, hs⟩ := shape_struct hf hr
    rw [hl] at hs
    obtain ⟨x, y, z, rfl, h1, h2, h3⟩ := shapeL3 hs
    obtain ⟨op, rfl, _⟩ := shape_int h.i h1
    obtain ⟨k, rfl, _⟩ := shape_int h.i h2
    obtain ⟨m', rows, rfl, rfl, _, h4⟩ := shape_slice h.lt.1 h3
    obtain ⟨l, rfl⟩ := rows_of encT (fun r hr => ih m' (by omega) r hr) rows h4
    exact ⟨.mk op k l, by rw [encT_eq, h.lt.2]; rfl⟩
theorem shape_rule (h : TermTypes P tI tB tS tT tLT tR tLR tC tLC tO) {n : Nat} {r : List C} (hr : Shape P n tR r) : ∃ x : Rule, r = encRule x := by
  obtain ⟨fs, hf, hl⟩ := h.r
  obtain ⟨m, rs, rfl, rfl, hs⟩ := shape_struct hf hr
  rw [hl] at hs
  obtain ⟨x, y, rfl, h1, h2⟩ := shapeL2 hs
  obtain ⟨a, rfl, _⟩ := shape_int h.i h1
  obtain ⟨t, rfl⟩ := shape_term h m y h2
  exact ⟨⟨a, t⟩, by simp [encRule]⟩
theorem shape_choice (h : TermTypes P tI tB tS tT tLT tR tLR tC tLC tO) {n : Nat} {r : List C} (hr : Shape P n tC r) : ∃ x : Choice, r = encChoice x := by
  obtain ⟨fs, hf, hl⟩ := h.c
  obtain ⟨m, rs, rfl, rfl, hs⟩ := shape_struct hf hr
  rw [hl] at hs
  obtain ⟨x, y, z, rfl, h1, h2, h3⟩ := shapeL3 hs
  obtain ⟨a, rfl, _⟩ := shape_int h.i h1
  obtain ⟨b, rfl, _⟩ := shape_int h.i h2
  obtain ⟨c, rfl⟩ := shape_bool h.b h3
  exact ⟨⟨a, b, c⟩, rfl⟩
theorem shape_order (h : TermTypes P tI tB tS tT tLT tR tLR tC tLC tO) {n : Nat} {r : List C} (hr : Shape P n tO r) : ∃ x : Order, r = encOrder x := by
  obtain ⟨fs, hf, hl⟩ := h.o
  obtain ⟨m, rs, rfl, rfl, hs⟩ := shape_struct hf hr
  rw [hl] at hs
  obtain ⟨x, y, z, u, rfl, h1, h2, h3, h4⟩ := shapeL4 hs
  obtain ⟨a, rfl, _⟩ := shape_str h.s h1
  obtain ⟨b, rfl⟩ := shape_bool h.b h2
  obtain ⟨_, rows, _, rfl, _, h5⟩ := shape_slice h.lc.1 h3
  obtain ⟨_, rows', _, rfl, _, h6⟩ := shape_slice h.lr.1 h4
  obtain ⟨l, rfl⟩ := rows_of encChoice (fun r hr => shape_choice h hr) rows h5
  obtain ⟨l', rfl⟩ := rows_of encRule (fun r hr => shape_rule h hr) rows' h6
  exact ⟨⟨a, b, l, l'⟩, by rw [h.lc.2, h.lr.2]; rfl⟩
theorem arg_order (h : TermTypes P tI tB tS tT tLT tR tLR tC tLC tO) {n : Nat} {r : List C} (hr : Shape P n tO r) : ∃ x : Order, argV P tO r = .agg (encOrder x) := by
  obtain ⟨x, rfl⟩ := shape_order h hr
  obtain ⟨fs, hf, _⟩ := h.o
  exact ⟨x, by simp only [argV, hf]⟩
theorem arg_int {n : Nat} {t : TypeId} {r : List C} {k : IntKind} (hu : P.underlying t = some (.int k)) (hr : Shape P n t r) : ∃ m : Int, argV P t r = .int k m ∧ (Lit.int k m).wf = true := by
  obtain ⟨m, rfl, h⟩ := shape_int hu hr
  exact ⟨m, by simp only [argV, hu], h⟩
end
end Go.Abs


namespace Go.Abs
section
variable {P : Program}
theorem shape_cell {n : Nat} {t tB tI : TypeId} {fs : Array Field} {r : List C} (ht : P.underlying t = some (.struct fs)) (hf : fs.toList.map (·.type) = [tB, tI]) (hb : P.underlying tB = some .bool) (hi : P.underlying tI = some (.int .i64)) (hr : Shape P n t r) : ∃ c : Cell, r = encCell c := by
  obtain ⟨m, rs, rfl, rfl, hs⟩ := shape_struct ht hr
  rw [hf] at hs
  obtain ⟨x, y, rfl, h1, h2⟩ := shapeL2 hs
  obtain ⟨b, rfl⟩ := shape_bool hb h1
  obtain ⟨k, rfl, _⟩ := shape_int hi h2
  exact ⟨⟨b, k⟩, rfl⟩
theorem arg_cells {n : Nat} {t e tB tI : TypeId} {fs : Array Field} {r : List C} (ht : P.underlying t = some (.slice e)) (he : P.underlying e = some (.struct fs)) (hf : fs.toList.map (·.type) = [tB, tI]) (hb : P.underlying tB = some .bool) (hi : P.underlying tI = some (.int .i64)) (hc : P.cellsOf e = 2)
    (hr : Shape P n t r) : ∃ l : List Cell, argV P t r = lst 2 (l.map encCell) := by
  obtain ⟨m, rows, rfl, rfl, _, h⟩ := shape_slice ht hr
  obtain ⟨l, rfl⟩ := rows_of encCell (fun r hr => shape_cell he hf hb hi hr) rows h
  exact ⟨l, by simp only [argV, ht, hc]⟩
def encB (b : Bool) : List C := [.bool b]
end
end Go.Abs


namespace Go.Abs
section
variable {P : Program} {tI tB tS tT tLT tR tLR tC tLC tO : TypeId}
end
end Go.Abs


namespace Go.Abs
def cut (n : Int) : Int := min (max n (-1099511627776)) 1099511627776
theorem cut_eq (n : Int) : cut n = n ↔ -1099511627776 ≤ n ∧ n ≤ 1099511627776 := by unfold cut; omega
def varType (v : Int) : Option Int := if v < 0 ∨ v > 19 then none else if v < 7 then some 0 else some 1
def varTypeV (v : Int) : V := .tup [.int .i64 ((varType v).getD 0), .bool (varType v).isSome]
def leaf (t : Term) : Int × Int :=
  if t.args.length > 0 then (0, 2) else if t.op = 0 then (if cut t.n ≠ t.n then (0, 3) else (0, 0)) else if t.op = 1 then (if t.n < 0 ∨ t.n > 1 then (0, 3) else (1, 0))
  else match varType t.n with | none => (0, 10) | some k => (k, 0)
def pairV (p : Int × Int) : V := .tup [.int .i64 p.1, .int .i64 p.2]
def arity (op : Int) : Int := if op = 0 ∨ op = 1 ∨ op = 2 then 0 else if op = 3 then 1 else if op = 6 then 3 else 2
mutual
def nodes : Term → Int → Int → Int
  | .mk _ _ a, k, lv => if lv < 1 then -1 else nodesL a (k - 1) (lv - 1)
def nodesL : List Term → Int → Int → Int
  | [], k, _ => k
  | t :: l, k, lv => if k < 0 then k else nodesL l (nodes t k lv) lv
end
theorem nodes_eq (t : Term) (k lv : Int) : nodes t k lv = if lv < 1 then -1 else nodesL t.args (k - 1) (lv - 1) := by cases t; simp [nodes, Term.args]
mutual
theorem nodes_bd : ∀ (t : Term) (k lv : Int), 0 ≤ k → -1 ≤ nodes t k lv ∧ nodes t k lv ≤ k
  | .mk _ _ a, k, lv, h => by
    simp only [nodes]
    split
    · omega
    · have := nodesL_bd a (k - 1) (lv - 1) (by omega); omega
theorem nodesL_bd : ∀ (l : List Term) (k lv : Int), -1 ≤ k → -1 ≤ nodesL l k lv ∧ nodesL l k lv ≤ k
  | [], k, lv, h => by simp [nodesL, h]
  | t :: l, k, lv, h => by
    simp only [nodesL]
    split
    · omega
    · have h1 := nodes_bd t k lv (by omega)
      have := nodesL_bd l (nodes t k lv) lv h1.1
      omega
end
theorem nodesL_drop {l : List Term} {i : Nat} (h : i < l.length) (k lv : Int) : nodesL (l.drop i) k lv = if k < 0 then k else nodesL (l.drop (i + 1)) (nodes l[i] k lv) lv := by
  rw [List.drop_eq_getElem_cons h, nodesL]
theorem nodesL_neg (l : List Term) (k lv : Int) (h : k < 0) : nodesL l k lv = k := by
  cases l <;> simp [nodesL, h]
theorem norm_T (t : Term) : C.normRow [C.int .i64 t.op, C.int .i64 t.n, C.list (if (List.map encT t.args).isEmpty = true then 0 else 3) none (List.map encT t.args)] = encT t := by
  have h := encT_norm t
  rw [encT_eq] at h
  exact h.trans (encT_eq t).symm
def measL (m : Term → Int) : List Term → Int → Int
  | [], n => n
  | a :: l, n => if n + m a > 60 then n + m a else measL m l (n + m a)
def meas : Nat → Term → Int
  | 0, _ => 61
  | f + 1, t => measL (meas f) t.args 1
theorem measL_bd {m : Term → Int} {M : Int} (hm : ∀ a, 1 ≤ m a ∧ m a ≤ M) (hM : 1 ≤ M) : ∀ (l : List Term) (n : Int), 1 ≤ n → n ≤ 60 → 1 ≤ measL m l n ∧ measL m l n ≤ 60 + M
  | [], n, h1, h2 => by simp only [measL]; omega
  | a :: l, n, h1, h2 => by
    simp only [measL]
    have := hm a
    split
    · omega
    · exact measL_bd hm hM l _ (by omega) (by omega)
theorem meas_bd : ∀ (f : Nat) (t : Term), 1 ≤ meas f t ∧ meas f t ≤ 61 + 60 * f
  | 0, t => by simp [meas]
  | f + 1, t => by
    have := measL_bd (m := meas f) (M := 61 + 60 * f) (meas_bd f) (by omega) t.args 1 (by omega) (by omega)
    simp only [meas]
    omega
theorem measL_drop {m : Term → Int} {l : List Term} {i : Nat} (h : i < l.length) (n : Int) : measL m (l.drop i) n = if n + m l[i] > 60 then n + m l[i] else measL m (l.drop (i + 1)) (n + m l[i]) := by
  rw [List.drop_eq_getElem_cons h, measL]
def shapeArgs (op : Int) : List Int := if op = 3 then [1] else if op = 4 ∨ op = 5 then [1, 1] else if op = 6 then [1, -1, -1] else if op = 7 then [0, 0] else if op = 8 then [-1, -1] else [0, 0]
def shapeRes (op : Int) : Int := if op = 3 then 1 else if op = 4 ∨ op = 5 then 1 else if op = 6 then -1 else if op = 7 then 1 else if op = 8 then 1 else 0
def shapeV (op : Int) : V := .agk [.newl 3 1 none (ints (shapeArgs op)), .c (.int .i64 (shapeRes op))]
def fit : List Int → List Int → Int → Option Int
  | [], _, c => some c
  | _, [], c => some c
  | w :: ws, ty :: tys, c =>
    let c' := if w = -1 ∧ c = -1 then ty else c
    if ty ≠ (if w = -1 then c' else w) then none else fit ws tys c'
def node (t : Term) (tys : List Int) : Int × Int :=
  if t.op < 0 ∨ t.op > 13 then (0, 1) else if t.op = 0 ∨ t.op = 1 ∨ t.op = 2 then leaf t
  else if tys.length ≠ (shapeArgs t.op).length ∨ t.n ≠ 0 then (0, 2)
  else match fit (shapeArgs t.op) tys (-1) with
    | none => (0, 11)
    | some c => if shapeRes t.op = -1 then (c, 0) else (shapeRes t.op, 0)
mutual
def chk : Term → Int × Int
  | .mk o n a => if (chkA a []).1 ≠ 0 then (0, (chkA a []).1) else node (.mk o n a) (chkA a []).2
def chkA : List Term → List Int → Int × List Int
  | [], ty => (0, ty)
  | t :: l, ty => if (chk t).2 ≠ 0 then ((chk t).2, []) else chkA l (ty ++ [(chk t).1])
end
theorem chk_eq (t : Term) : chk t = if (chkA t.args []).1 ≠ 0 then (0, (chkA t.args []).1) else node t (chkA t.args []).2 := by cases t; simp only [chk, Term.args]; rfl
theorem chkA_drop {l : List Term} {i : Nat} (h : i < l.length) (ty : List Int) : chkA (l.drop i) ty = if (chk l[i]).2 ≠ 0 then ((chk l[i]).2, []) else chkA (l.drop (i + 1)) (ty ++ [(chk l[i]).1]) := by
  rw [List.drop_eq_getElem_cons h, chkA]
def Narrow : Nat → Term → Prop
  | 0, _ => False
  | f + 1, t => t.args.length ≤ 1000 ∧ ∀ a ∈ t.args, Narrow f a
theorem set_at {l : List Int} {n : Nat} {x : Int} {i : Nat} (hl : l.length = i) (h : i < n) :
    (ints l ++ List.replicate (n - i) [C.int .i64 0]).set i [C.int .i64 x] = ints (l ++ [x]) ++ List.replicate (n - (i + 1)) [C.int .i64 0] := by
  obtain ⟨m, hm⟩ : ∃ m, n - i = m + 1 := ⟨n - i - 1, by omega⟩
  have hm2 : n - (i + 1) = m := by omega
  rw [hm, hm2, List.replicate_succ, List.set_append_right _ _ (by simp [ints, hl])]
  simp [ints, hl]
theorem fit_drop {ws tys : List Int} {j : Nat} (h1 : j < ws.length) (h2 : j < tys.length) (c : Int) : fit (ws.drop j) (tys.drop j) c =
    if tys[j] ≠ (if ws[j] = -1 then (if ws[j] = -1 ∧ c = -1 then tys[j] else c) else ws[j]) then none else fit (ws.drop (j + 1)) (tys.drop (j + 1)) (if ws[j] = -1 ∧ c = -1 then tys[j] else c) := by
  rw [List.drop_eq_getElem_cons h1, List.drop_eq_getElem_cons h2, fit]
theorem fit_end (ws tys : List Int) (c : Int) (h : ws = []) : fit ws tys c = some c := by subst h; cases tys <;> rfl
theorem shape_small (op : Int) : (shapeArgs op).length ≤ 3 := by unfold shapeArgs; (repeat' split) <;> simp
end Go.Abs

