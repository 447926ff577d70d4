/- A part of the proof; the last text states what is proved. -/
import Derived.Test.YtnendldalcpgeaaGreatDoorP3
import Derived.Test.YtnendldalcpgeaaGreatDoorProg
import Derived.IntWalk
import Derived.Shelf.Bits.Mul64
import Derived.Shelf.Slices.Clone
import Derived.Shelf.Slices.CompactS
import Derived.Shelf.Sort.Plain
import Derived.Shelf.SlicesE.DeleteFunc
set_option linter.unusedVariables false
set_option linter.unusedSimpArgs false
set_option maxRecDepth 100000
namespace Go.Abs
open Go.Proofs
abbrev LA := List AI
theorem uu {a b : AQ} (h : a = b) (P ts os Q) : awl P a Q ts os = awl P b Q ts os := h ▸ rfl
theorem vv {α : Type} {a b : α} (h : a = b) : a = b := h
def f9r1 : LA := [.mk none (.faddr 42 0 (.t 1)), .mk none (.load 43 1 false (.t 42)), .mk none (.len 44 (.t 43)), .mk none (.bin 45 .leq (.t 44) (.v (.k (.c (.int .i64 60))))), .mk none (.mov 46 (.t 45)), .mk (some (46, true)) (.faddr 47 1 (.t 1)), .mk (some (46, true)) (.load 48 1 false (.t 47)), .mk (some (46, true)) (.len 49 (.t 48)), .mk (some (46, true)) (.bin 50 .leq (.t 49) (.v (.k (.c (.int .i64 60))))), .mk none (.pick 51 (.t 46) (.t 50) (.v (.k (.c (.bool false))))), .mk none (.mov 2 (.t 51))]
def f9b2 : AQ := (.seq (.region f9r1) .ret)
def f9r3 : LA := [.mk none (.mov 32 (.t 4)), .mk none (.bin 33 .add (.t 32) (.v (.k (.c (.int .i64 1))))), .mk none (.mov 4 (.t 33))]
def f9r4 : LA := [.mk none (.mov 2 (.v (.k (.c (.bool false)))))]
def f9b5 : AQ := (.seq (.region f9r4) .ret)
def f9b6 : AQ := (.cond (.t 41) f9b5 .skip)
def f9r7 : LA := [.mk none (.faddr 34 1 (.t 1)), .mk none (.load 35 1 false (.t 34)), .mk none (.mov 36 (.t 4)), .mk none (.iaddr 37 2 (.t 35) (.t 36)), .mk none (.faddr 38 1 (.t 37)), .mk none (.load 39 1 false (.t 38)), .mk none (.lenS 40 (.t 39)), .mk none (.bin 41 .gtr (.t 40) (.v (.k (.c (.int .i64 40)))))]
def f9b8 : AQ := (.seq (.region f9r7) f9b6)
def f9b9 : AQ := (.block 3 f9b8)
def f9b10 : AQ := (.seq f9b9 (.region f9r3))
def f9b11 : AQ := (.cond (.t 31) .skip (.exit 2))
def f9r12 : LA := [.mk none (.mov 23 (.t 4)), .mk none (.faddr 24 1 (.t 1)), .mk none (.load 25 1 false (.t 24)), .mk none (.len 26 (.t 25)), .mk none (.bin 27 .lss (.t 23) (.t 26)), .mk none (.mov 28 (.t 27)), .mk (some (28, true)) (.mov 29 (.t 4)), .mk (some (28, true)) (.bin 30 .lss (.t 29) (.v (.k (.c (.int .i64 80))))), .mk none (.pick 31 (.t 28) (.t 30) (.v (.k (.c (.bool false)))))]
def f9b13 : AQ := (.seq (.region f9r12) f9b11)
def f9b14 : AQ := (.seq f9b13 f9b10)
def f9l15 : AQ := .loop [1, 4] [1] f9b14
theorem zla (P ts os Q) : awl P f9l15 Q ts os = awl P (.loop [1, 4] [1] f9b14) Q ts os := id rfl
def f9b16 : AQ := (.block 2 f9l15)
def f9r17 : LA := [.mk none (.mov 4 (.v (.k (.c (.int .i64 0)))))]
def f9b18 : AQ := (.seq (.region f9r17) f9b16)
def f9b19 : AQ := (.seq f9b18 f9b2)
def f9r20 : LA := [.mk none (.mov 14 (.t 3)), .mk none (.bin 15 .add (.t 14) (.v (.k (.c (.int .i64 1))))), .mk none (.mov 3 (.t 15))]
def f9r21 : LA := [.mk none (.mov 2 (.v (.k (.c (.bool false)))))]
def f9b22 : AQ := (.seq (.region f9r21) .ret)
def f9b23 : AQ := (.cond (.t 22) f9b22 .skip)
def f9r24 : LA := [.mk none (.faddr 16 0 (.t 1)), .mk none (.load 17 1 false (.t 16)), .mk none (.mov 18 (.t 3)), .mk none (.iaddr 19 1 (.t 17) (.t 18)), .mk none (.load 20 1 false (.t 19)), .mk none (.lenS 21 (.t 20)), .mk none (.bin 22 .gtr (.t 21) (.v (.k (.c (.int .i64 40)))))]
def f9b25 : AQ := (.seq (.region f9r24) f9b23)
def f9b26 : AQ := (.block 1 f9b25)
def f9b27 : AQ := (.seq f9b26 (.region f9r20))
def f9b28 : AQ := (.cond (.t 13) .skip (.exit 0))
def f9r29 : LA := [.mk none (.mov 5 (.t 3)), .mk none (.faddr 6 0 (.t 1)), .mk none (.load 7 1 false (.t 6)), .mk none (.len 8 (.t 7)), .mk none (.bin 9 .lss (.t 5) (.t 8)), .mk none (.mov 10 (.t 9)), .mk (some (10, true)) (.mov 11 (.t 3)), .mk (some (10, true)) (.bin 12 .lss (.t 11) (.v (.k (.c (.int .i64 80))))), .mk none (.pick 13 (.t 10) (.t 12) (.v (.k (.c (.bool false)))))]
def f9b30 : AQ := (.seq (.region f9r29) f9b28)
def f9b31 : AQ := (.seq f9b30 f9b27)
def f9l32 : AQ := .loop [1, 3] [1] f9b31
theorem zlb (P ts os Q) : awl P f9l32 Q ts os = awl P (.loop [1, 3] [1] f9b31) Q ts os := id rfl
def f9b33 : AQ := (.block 0 f9l32)
def f9r34 : LA := [.mk none (.mov 3 (.v (.k (.c (.int .i64 0)))))]
def f9b35 : AQ := (.seq (.region f9r34) f9b33)
def f9b36 : AQ := (.seq f9b35 f9b19)
def f9r37 : LA := [.mk none (.box 1 25 (.t 0)), .mk none (.mov 2 (.v (.k (.c (.bool false)))))]
def f9b38 : AQ := (.seq (.region f9r37) f9b36)
def f9 : AQ := f9b38
theorem hf9 : zG Tryz.prog 9 = some ⟨52, f9.erase, [(RX.t 2)]⟩ := by kernel_rfl
theorem okf9 : f9.ok = true := by kernel_rfl
def f10r1 : LA := [.mk none (.mov 55 (.t 0)), .mk none (.len 56 (.t 55)), .mk none (.bin 57 .leq (.t 56) (.v (.k (.c (.int .i64 5))))), .mk none (.mov 2 (.t 57))]
def f10b2 : AQ := (.seq (.region f10r1) .ret)
def f10r3 : LA := [.mk none (.mov 13 (.t 3)), .mk none (.bin 14 .add (.t 13) (.v (.k (.c (.int .i64 1))))), .mk none (.mov 3 (.t 14))]
def f10r4 : LA := [.mk none (.mov 44 (.t 4)), .mk none (.bin 45 .add (.t 44) (.v (.k (.c (.int .i64 1))))), .mk none (.mov 4 (.t 45))]
def f10r5 : LA := [.mk none (.mov 2 (.v (.k (.c (.bool false)))))]
def f10b6 : AQ := (.seq (.region f10r5) .ret)
def f10b7 : AQ := (.cond (.t 54) f10b6 .skip)
def f10r8 : LA := [.mk none (.mov 46 (.t 0)), .mk none (.mov 47 (.t 3)), .mk none (.iaddr 48 1 (.t 46) (.t 47)), .mk none (.load 49 1 false (.t 48)), .mk none (.mov 50 (.t 4)), .mk none (.iaddr 51 1 (.t 49) (.t 50)), .mk none (.load 52 1 false (.t 51)), .mk none (.lenS 53 (.t 52)), .mk none (.bin 54 .gtr (.t 53) (.v (.k (.c (.int .i64 60)))))]
def f10b9 : AQ := (.seq (.region f10r8) f10b7)
def f10b10 : AQ := (.block 3 f10b9)
def f10b11 : AQ := (.seq f10b10 (.region f10r4))
def f10b12 : AQ := (.cond (.t 43) .skip (.exit 2))
def f10r13 : LA := [.mk none (.mov 37 (.t 4)), .mk none (.mov 38 (.t 0)), .mk none (.mov 39 (.t 3)), .mk none (.iaddr 40 1 (.t 38) (.t 39)), .mk none (.load 41 1 false (.t 40)), .mk none (.len 42 (.t 41)), .mk none (.bin 43 .lss (.t 37) (.t 42))]
def f10b14 : AQ := (.seq (.region f10r13) f10b12)
def f10b15 : AQ := (.seq f10b14 f10b11)
def f10l16 : AQ := .loop [0, 3, 4] [] f10b15
theorem zlc (P ts os Q) : awl P f10l16 Q ts os = awl P (.loop [0, 3, 4] [] f10b15) Q ts os := id rfl
def f10b17 : AQ := (.block 2 f10l16)
def f10r18 : LA := [.mk none (.mov 4 (.v (.k (.c (.int .i64 0)))))]
def f10b19 : AQ := (.seq (.region f10r18) f10b17)
def f10r20 : LA := [.mk none (.mov 2 (.v (.k (.c (.bool false)))))]
def f10b21 : AQ := (.seq (.region f10r20) .ret)
def f10b22 : AQ := (.cond (.t 36) f10b21 .skip)
def f10r23 : LA := [.mk none (.mov 15 (.t 0)), .mk none (.mov 16 (.t 3)), .mk none (.iaddr 17 1 (.t 15) (.t 16)), .mk none (.load 18 1 false (.t 17)), .mk none (.len 19 (.t 18)), .mk none (.bin 20 .gtr (.t 19) (.v (.k (.c (.int .i64 20))))), .mk none (.mov 21 (.t 20)), .mk (some (21, true)) (.mov 22 (.t 0)), .mk (some (21, true)) (.mov 23 (.t 3)), .mk (some (21, true)) (.iaddr 24 1 (.t 22) (.t 23)), .mk (some (21, true)) (.load 25 1 false (.t 24)), .mk (some (21, true)) (.len 26 (.t 25)), .mk (some (21, true)) (.bin 27 .leq (.t 26) (.v (.k (.c (.int .i64 500))))), .mk none (.pick 28 (.t 21) (.t 27) (.v (.k (.c (.bool false))))), .mk none (.mov 29 (.t 28)), .mk (some (29, false)) (.mov 30 (.t 0)), .mk (some (29, false)) (.mov 31 (.t 3)), .mk (some (29, false)) (.iaddr 32 1 (.t 30) (.t 31)), .mk (some (29, false)) (.load 33 1 false (.t 32)), .mk (some (29, false)) (.len 34 (.t 33)), .mk (some (29, false)) (.bin 35 .gtr (.t 34) (.v (.k (.c (.int .i64 1000))))), .mk none (.pick 36 (.t 29) (.v (.k (.c (.bool true)))) (.t 35))]
def f10b24 : AQ := (.seq (.region f10r23) f10b22)
def f10b25 : AQ := (.seq f10b24 f10b19)
def f10b26 : AQ := (.block 1 f10b25)
def f10b27 : AQ := (.seq f10b26 (.region f10r3))
def f10b28 : AQ := (.cond (.t 12) .skip (.exit 0))
def f10r29 : LA := [.mk none (.mov 5 (.t 3)), .mk none (.mov 6 (.t 0)), .mk none (.len 7 (.t 6)), .mk none (.bin 8 .lss (.t 5) (.t 7)), .mk none (.mov 9 (.t 8)), .mk (some (9, true)) (.mov 10 (.t 3)), .mk (some (9, true)) (.bin 11 .lss (.t 10) (.v (.k (.c (.int .i64 10))))), .mk none (.pick 12 (.t 9) (.t 11) (.v (.k (.c (.bool false)))))]
def f10b30 : AQ := (.seq (.region f10r29) f10b28)
def f10b31 : AQ := (.seq f10b30 f10b27)
def f10l32 : AQ := .loop [0, 3] [] f10b31
theorem zld (P ts os Q) : awl P f10l32 Q ts os = awl P (.loop [0, 3] [] f10b31) Q ts os := id rfl
def f10b33 : AQ := (.block 0 f10l32)
def f10r34 : LA := [.mk none (.mov 3 (.v (.k (.c (.int .i64 0)))))]
def f10b35 : AQ := (.seq (.region f10r34) f10b33)
def f10b36 : AQ := (.seq f10b35 f10b2)
def f10r37 : LA := [.mk none (.mov 2 (.v (.k (.c (.bool false)))))]
def f10b38 : AQ := (.seq (.region f10r37) f10b36)
def f10 : AQ := f10b38
theorem hf10 : zG Tryz.prog 10 = some ⟨58, f10.erase, [(RX.t 2)]⟩ := by kernel_rfl
theorem okf10 : f10.ok = true := by kernel_rfl
def f11r1 : LA := [.mk none (.load 15 4 true (.t 4)), .mk none (.call (some 16) 32 [(.t 15)]), .mk none (.extr 17 (.t 16) 0), .mk none (.extr 18 (.t 16) 1), .mk none (.store 4 (.t 2) (.t 17)), .mk none (.mov 3 (.t 18))]
def f11b2 : AQ := (.seq (.region f11r1) .ret)
def f11r3 : LA := [.mk none (.build 13 [(.list 0 (some true) []), (.list 0 (some true) []), (.int .i64 0), (.bool false)] []), .mk none (.mov 14 (.t 5)), .mk none (.store 4 (.t 2) (.t 13)), .mk none (.mov 3 (.t 14))]
def f11b4 : AQ := (.seq (.region f11r3) .ret)
def f11b5 : AQ := (.cond (.t 12) f11b4 .skip)
def f11r6 : LA := [.mk none (.mov 11 (.t 5)), .mk none (.bin 12 .neq (.t 11) (.v (.k (.c (.int .i64 0)))))]
def f11b7 : AQ := (.seq (.region f11r6) f11b5)
def f11b8 : AQ := (.seq f11b7 f11b2)
def f11r9 : LA := [.mk none (.mov 7 (.t 0)), .mk none (.call (some 8) 31 [(.t 7)]), .mk none (.mov 6 (.t 8)), .mk none (.extr 9 (.t 6) 0), .mk none (.extr 10 (.t 6) 1), .mk none (.alloc 4 25 [(.list 0 (some true) []), (.list 0 (some true) []), (.int .i64 0), (.bool false)]), .mk none (.store 4 (.t 4) (.t 9)), .mk none (.mov 5 (.t 10))]
def f11b10 : AQ := (.seq (.region f11r9) f11b8)
def f11r11 : LA := [.mk none (.alloc 2 25 [(.list 0 (some true) []), (.list 0 (some true) []), (.int .i64 0), (.bool false)]), .mk none (.mov 3 (.v (.k (.c (.int .i64 0)))))]
def f11b12 : AQ := (.seq (.region f11r11) f11b10)
def f11 : AQ := f11b12
theorem hf11 : zG Tryz.prog 11 = some ⟨19, f11.erase, [(RX.cell 2 4 true), (RX.t 3)]⟩ := by kernel_rfl
theorem okf11 : f11.ok = true := by kernel_rfl
def f12r1 : LA := [.mk none (.load 15 4 true (.t 4)), .mk none (.call (some 16) 34 [(.t 15)]), .mk none (.extr 17 (.t 16) 0), .mk none (.extr 18 (.t 16) 1), .mk none (.store 4 (.t 2) (.t 17)), .mk none (.mov 3 (.t 18))]
def f12b2 : AQ := (.seq (.region f12r1) .ret)
def f12r3 : LA := [.mk none (.build 13 [(.list 0 (some true) []), (.list 0 (some true) []), (.int .i64 0), (.bool false)] []), .mk none (.mov 14 (.t 5)), .mk none (.store 4 (.t 2) (.t 13)), .mk none (.mov 3 (.t 14))]
def f12b4 : AQ := (.seq (.region f12r3) .ret)
def f12b5 : AQ := (.cond (.t 12) f12b4 .skip)
def f12r6 : LA := [.mk none (.mov 11 (.t 5)), .mk none (.bin 12 .neq (.t 11) (.v (.k (.c (.int .i64 0)))))]
def f12b7 : AQ := (.seq (.region f12r6) f12b5)
def f12b8 : AQ := (.seq f12b7 f12b2)
def f12r9 : LA := [.mk none (.mov 7 (.t 0)), .mk none (.call (some 8) 33 [(.t 7)]), .mk none (.mov 6 (.t 8)), .mk none (.extr 9 (.t 6) 0), .mk none (.extr 10 (.t 6) 1), .mk none (.alloc 4 25 [(.list 0 (some true) []), (.list 0 (some true) []), (.int .i64 0), (.bool false)]), .mk none (.store 4 (.t 4) (.t 9)), .mk none (.mov 5 (.t 10))]
def f12b10 : AQ := (.seq (.region f12r9) f12b8)
def f12r11 : LA := [.mk none (.alloc 2 25 [(.list 0 (some true) []), (.list 0 (some true) []), (.int .i64 0), (.bool false)]), .mk none (.mov 3 (.v (.k (.c (.int .i64 0)))))]
def f12b12 : AQ := (.seq (.region f12r11) f12b10)
def f12 : AQ := f12b12
theorem hf12 : zG Tryz.prog 12 = some ⟨19, f12.erase, [(RX.cell 2 4 true), (RX.t 3)]⟩ := by kernel_rfl
theorem okf12 : f12.ok = true := by kernel_rfl
def f13r1 : LA := [.mk none (.mov 4 (.v (.k (.c (.bool true)))))]
def f13b2 : AQ := (.seq (.region f13r1) .ret)
def f13r3 : LA := [.mk none (.mov 60 (.t 6)), .mk none (.bin 61 .add (.t 60) (.v (.k (.c (.int .i64 1))))), .mk none (.mov 6 (.t 61))]
def f13r4 : LA := [.mk none (.mov 4 (.v (.k (.c (.bool false)))))]
def f13b5 : AQ := (.seq (.region f13r4) .ret)
def f13b6 : AQ := (.cond (.t 72) f13b5 .skip)
def f13r7 : LA := [.mk none (.faddr 62 1 (.t 2)), .mk none (.load 63 1 false (.t 62)), .mk none (.mov 64 (.t 6)), .mk none (.iaddr 65 2 (.t 63) (.t 64)), .mk none (.load 66 2 true (.t 65)), .mk none (.faddr 67 1 (.t 3)), .mk none (.load 68 1 false (.t 67)), .mk none (.mov 69 (.t 6)), .mk none (.iaddr 70 2 (.t 68) (.t 69)), .mk none (.load 71 2 true (.t 70)), .mk none (.eqAgg 72 true [.int, .str] (.t 66) (.t 71))]
def f13b8 : AQ := (.seq (.draw f13r7 [[], [0], [], [1, 2], [3], [], [5], [], [6, 7], [8], [4, 9]]) f13b6)
def f13b9 : AQ := (.block 3 f13b8)
def f13b10 : AQ := (.seq f13b9 (.region f13r3))
def f13b11 : AQ := (.cond (.t 59) .skip (.exit 2))
def f13r12 : LA := [.mk none (.mov 55 (.t 6)), .mk none (.faddr 56 1 (.t 2)), .mk none (.load 57 1 false (.t 56)), .mk none (.len 58 (.t 57)), .mk none (.bin 59 .lss (.t 55) (.t 58))]
def f13b13 : AQ := (.seq (.region f13r12) f13b11)
def f13b14 : AQ := (.seq f13b13 f13b10)
def f13l15 : AQ := .loop [2, 3, 6] [2, 3] f13b14
theorem zle (P ts os Q) : awl P f13l15 Q ts os = awl P (.loop [2, 3, 6] [2, 3] f13b14) Q ts os := id rfl
def f13b16 : AQ := (.block 2 f13l15)
def f13r17 : LA := [.mk none (.mov 6 (.v (.k (.c (.int .i64 0)))))]
def f13b18 : AQ := (.seq (.region f13r17) f13b16)
def f13b19 : AQ := (.seq f13b18 f13b2)
def f13r20 : LA := [.mk none (.mov 42 (.t 5)), .mk none (.bin 43 .add (.t 42) (.v (.k (.c (.int .i64 1))))), .mk none (.mov 5 (.t 43))]
def f13r21 : LA := [.mk none (.mov 4 (.v (.k (.c (.bool false)))))]
def f13b22 : AQ := (.seq (.region f13r21) .ret)
def f13b23 : AQ := (.cond (.t 54) f13b22 .skip)
def f13r24 : LA := [.mk none (.faddr 44 0 (.t 2)), .mk none (.load 45 1 false (.t 44)), .mk none (.mov 46 (.t 5)), .mk none (.iaddr 47 1 (.t 45) (.t 46)), .mk none (.load 48 1 false (.t 47)), .mk none (.faddr 49 0 (.t 3)), .mk none (.load 50 1 false (.t 49)), .mk none (.mov 51 (.t 5)), .mk none (.iaddr 52 1 (.t 50) (.t 51)), .mk none (.load 53 1 false (.t 52)), .mk none (.bin 54 .neq (.t 48) (.t 53))]
def f13b25 : AQ := (.seq (.draw f13r24 [[], [0], [], [1, 2], [3], [], [5], [], [6, 7], [8], [4, 9]]) f13b23)
def f13b26 : AQ := (.block 1 f13b25)
def f13b27 : AQ := (.seq f13b26 (.region f13r20))
def f13b28 : AQ := (.cond (.t 41) .skip (.exit 0))
def f13r29 : LA := [.mk none (.mov 37 (.t 5)), .mk none (.faddr 38 0 (.t 2)), .mk none (.load 39 1 false (.t 38)), .mk none (.len 40 (.t 39)), .mk none (.bin 41 .lss (.t 37) (.t 40))]
def f13b30 : AQ := (.seq (.region f13r29) f13b28)
def f13b31 : AQ := (.seq f13b30 f13b27)
def f13l32 : AQ := .loop [2, 3, 5] [2, 3] f13b31
theorem zlf (P ts os Q) : awl P f13l32 Q ts os = awl P (.loop [2, 3, 5] [2, 3] f13b31) Q ts os := id rfl
def f13b33 : AQ := (.block 0 f13l32)
def f13r34 : LA := [.mk none (.mov 5 (.v (.k (.c (.int .i64 0)))))]
def f13b35 : AQ := (.seq (.region f13r34) f13b33)
def f13b36 : AQ := (.seq f13b35 f13b19)
def f13r37 : LA := [.mk none (.mov 4 (.v (.k (.c (.bool false)))))]
def f13b38 : AQ := (.seq (.region f13r37) .ret)
def f13b39 : AQ := (.cond (.t 36) f13b38 .skip)
def f13r40 : LA := [.mk none (.faddr 7 0 (.t 2)), .mk none (.load 8 1 false (.t 7)), .mk none (.len 9 (.t 8)), .mk none (.faddr 10 0 (.t 3)), .mk none (.load 11 1 false (.t 10)), .mk none (.len 12 (.t 11)), .mk none (.bin 13 .neq (.t 9) (.t 12)), .mk none (.mov 14 (.t 13)), .mk (some (14, false)) (.faddr 15 1 (.t 2)), .mk (some (14, false)) (.load 16 1 false (.t 15)), .mk (some (14, false)) (.len 17 (.t 16)), .mk (some (14, false)) (.faddr 18 1 (.t 3)), .mk (some (14, false)) (.load 19 1 false (.t 18)), .mk (some (14, false)) (.len 20 (.t 19)), .mk (some (14, false)) (.bin 21 .neq (.t 17) (.t 20)), .mk none (.pick 22 (.t 14) (.v (.k (.c (.bool true)))) (.t 21)), .mk none (.mov 23 (.t 22)), .mk (some (23, false)) (.faddr 24 2 (.t 2)), .mk (some (23, false)) (.load 25 1 false (.t 24)), .mk (some (23, false)) (.faddr 26 2 (.t 3)), .mk (some (23, false)) (.load 27 1 false (.t 26)), .mk (some (23, false)) (.bin 28 .neq (.t 25) (.t 27)), .mk none (.pick 29 (.t 23) (.v (.k (.c (.bool true)))) (.t 28)), .mk none (.mov 30 (.t 29)), .mk (some (30, false)) (.faddr 31 3 (.t 2)), .mk (some (30, false)) (.load 32 1 false (.t 31)), .mk (some (30, false)) (.faddr 33 3 (.t 3)), .mk (some (30, false)) (.load 34 1 false (.t 33)), .mk (some (30, false)) (.binB 35 true (.t 32) (.t 34)), .mk none (.pick 36 (.t 30) (.v (.k (.c (.bool true)))) (.t 35))]
def f13b41 : AQ := (.seq (.region f13r40) f13b39)
def f13b42 : AQ := (.seq f13b41 f13b36)
def f13r43 : LA := [.mk none (.box 2 25 (.t 0)), .mk none (.box 3 25 (.t 1)), .mk none (.mov 4 (.v (.k (.c (.bool false)))))]
def f13b44 : AQ := (.seq (.region f13r43) f13b42)
def f13 : AQ := f13b44
theorem hf13 : zG Tryz.prog 13 = some ⟨73, f13.erase, [(RX.t 4)]⟩ := by kernel_rfl
theorem okf13 : f13.ok = true := by kernel_rfl
def f14r1 : LA := [.mk none (.load 29 4 true (.t 2)), .mk none (.mov 30 (.t 1)), .mk none (.call (some 31) 39 [(.t 29), (.t 30)]), .mk none (.extr 32 (.t 31) 0), .mk none (.extr 33 (.t 31) 1), .mk none (.store 4 (.t 4) (.t 32)), .mk none (.mov 5 (.t 33))]
def f14b2 : AQ := (.seq (.region f14r1) .ret)
def f14r3 : LA := [.mk none (.load 28 4 true (.t 2)), .mk none (.store 4 (.t 4) (.t 28)), .mk none (.mov 5 (.v (.k (.c (.int .i64 5)))))]
def f14b4 : AQ := (.seq (.region f14r3) .ret)
def f14r5 : LA := [.mk none (.faddr 20 0 (.t 2)), .mk none (.load 21 1 false (.t 20)), .mk none (.call (some 22) 37 [(.t 21)]), .mk none (.faddr 23 1 (.t 2)), .mk none (.load 24 1 false (.t 23)), .mk none (.call (some 25) 38 [(.t 24)]), .mk none (.faddr 26 0 (.t 2)), .mk none (.store 1 (.t 26) (.t 22)), .mk none (.faddr 27 1 (.t 2)), .mk none (.store 1 (.t 27) (.t 25))]
def f14b6 : AQ := (.seq (.draw f14r5 [[], [0], [1], [], [3], [4, 2], [0, 1, 2, 3, 4], [6, 2, 5, 0, 1, 2, 3, 4], [0, 1, 2, 3, 4, 5, 6, 7], [8, 5, 7, 0, 1, 2, 3, 4, 5, 6, 7]]) f14b4)
def f14b7 : AQ := (.cond (.t 19) f14b6 .skip)
def f14r8 : LA := [.mk none (.mov 17 (.t 6)), .mk none (.mov 18 (.t 1)), .mk none (.call (some 19) 36 [(.t 17), (.t 18)])]
def f14b9 : AQ := (.seq (.region f14r8) f14b7)
def f14b10 : AQ := (.seq f14b9 f14b2)
def f14r11 : LA := [.mk none (.build 15 [(.list 0 (some true) []), (.list 0 (some true) []), (.int .i64 0), (.bool false)] []), .mk none (.mov 16 (.t 7)), .mk none (.store 4 (.t 4) (.t 15)), .mk none (.mov 5 (.t 16))]
def f14b12 : AQ := (.seq (.region f14r11) .ret)
def f14b13 : AQ := (.cond (.t 14) f14b12 .skip)
def f14r14 : LA := [.mk none (.mov 13 (.t 7)), .mk none (.bin 14 .neq (.t 13) (.v (.k (.c (.int .i64 0)))))]
def f14b15 : AQ := (.seq (.region f14r14) f14b13)
def f14b16 : AQ := (.seq f14b15 f14b10)
def f14r17 : LA := [.mk none (.load 9 4 true (.t 2)), .mk none (.call (some 10) 35 [(.t 9)]), .mk none (.mov 8 (.t 10)), .mk none (.extr 11 (.t 8) 0), .mk none (.extr 12 (.t 8) 1), .mk none (.mov 6 (.t 11)), .mk none (.mov 7 (.t 12))]
def f14b18 : AQ := (.seq (.region f14r17) f14b16)
def f14r19 : LA := [.mk none (.box 2 25 (.t 0)), .mk none (.alloc 4 25 [(.list 0 (some true) []), (.list 0 (some true) []), (.int .i64 0), (.bool false)]), .mk none (.mov 5 (.v (.k (.c (.int .i64 0)))))]
def f14b20 : AQ := (.seq (.region f14r19) f14b18)
def f14 : AQ := f14b20
theorem hf14 : zG Tryz.prog 14 = some ⟨34, f14.erase, [(RX.cell 4 4 true), (RX.t 5)]⟩ := by kernel_rfl
theorem okf14 : f14.ok = true := by kernel_rfl
def f15r1 : LA := [.mk none (.load 21 4 true (.t 2)), .mk none (.mov 22 (.t 1)), .mk none (.call (some 23) 40 [(.t 21), (.t 22)]), .mk none (.extr 24 (.t 23) 0), .mk none (.extr 25 (.t 23) 1), .mk none (.store 4 (.t 4) (.t 24)), .mk none (.mov 5 (.t 25))]
def f15b2 : AQ := (.seq (.region f15r1) .ret)
def f15r3 : LA := [.mk none (.load 20 4 true (.t 2)), .mk none (.store 4 (.t 4) (.t 20)), .mk none (.mov 5 (.v (.k (.c (.int .i64 5)))))]
def f15b4 : AQ := (.seq (.region f15r3) .ret)
def f15b5 : AQ := (.cond (.t 19) f15b4 .skip)
def f15r6 : LA := [.mk none (.mov 17 (.t 6)), .mk none (.mov 18 (.t 1)), .mk none (.call (some 19) 27 [(.t 17), (.t 18)])]
def f15b7 : AQ := (.seq (.region f15r6) f15b5)
def f15b8 : AQ := (.seq f15b7 f15b2)
def f15r9 : LA := [.mk none (.build 15 [(.list 0 (some true) []), (.list 0 (some true) []), (.int .i64 0), (.bool false)] []), .mk none (.mov 16 (.t 7)), .mk none (.store 4 (.t 4) (.t 15)), .mk none (.mov 5 (.t 16))]
def f15b10 : AQ := (.seq (.region f15r9) .ret)
def f15b11 : AQ := (.cond (.t 14) f15b10 .skip)
def f15r12 : LA := [.mk none (.mov 13 (.t 7)), .mk none (.bin 14 .neq (.t 13) (.v (.k (.c (.int .i64 0)))))]
def f15b13 : AQ := (.seq (.region f15r12) f15b11)
def f15b14 : AQ := (.seq f15b13 f15b8)
def f15r15 : LA := [.mk none (.load 9 4 true (.t 2)), .mk none (.call (some 10) 19 [(.t 9)]), .mk none (.mov 8 (.t 10)), .mk none (.extr 11 (.t 8) 0), .mk none (.extr 12 (.t 8) 1), .mk none (.mov 6 (.t 11)), .mk none (.mov 7 (.t 12))]
def f15b16 : AQ := (.seq (.region f15r15) f15b14)
def f15r17 : LA := [.mk none (.box 2 25 (.t 0)), .mk none (.alloc 4 25 [(.list 0 (some true) []), (.list 0 (some true) []), (.int .i64 0), (.bool false)]), .mk none (.mov 5 (.v (.k (.c (.int .i64 0)))))]
def f15b18 : AQ := (.seq (.region f15r17) f15b16)
def f15 : AQ := f15b18
theorem hf15 : zG Tryz.prog 15 = some ⟨26, f15.erase, [(RX.cell 4 4 true), (RX.t 5)]⟩ := by kernel_rfl
theorem okf15 : f15.ok = true := by kernel_rfl
def f16r1 : LA := [.mk none (.load 4 4 true (.t 1)), .mk none (.call (some 5) 41 [(.t 4)]), .mk none (.extr 6 (.t 5) 0), .mk none (.extr 7 (.t 5) 1), .mk none (.store 4 (.t 2) (.t 6)), .mk none (.mov 3 (.t 7))]
def f16b2 : AQ := (.seq (.region f16r1) .ret)
def f16r3 : LA := [.mk none (.box 1 25 (.t 0)), .mk none (.alloc 2 25 [(.list 0 (some true) []), (.list 0 (some true) []), (.int .i64 0), (.bool false)]), .mk none (.mov 3 (.v (.k (.c (.int .i64 0)))))]
def f16b4 : AQ := (.seq (.region f16r3) f16b2)
def f16 : AQ := f16b4
theorem hf16 : zG Tryz.prog 16 = some ⟨8, f16.erase, [(RX.cell 2 4 true), (RX.t 3)]⟩ := by kernel_rfl
theorem okf16 : f16.ok = true := by kernel_rfl
def f17r1 : LA := [.mk none (.load 13 4 true (.t 1)), .mk none (.store 4 (.t 2) (.t 13)), .mk none (.mov 3 (.v (.k (.c (.int .i64 0)))))]
def f17b2 : AQ := (.seq (.region f17r1) .ret)
def f17r3 : LA := [.mk none (.faddr 12 3 (.t 1)), .mk none (.store 1 (.t 12) (.v (.k (.c (.bool false)))))]
def f17b4 : AQ := (.seq (.region f17r3) f17b2)
def f17r5 : LA := [.mk none (.build 11 [(.list 0 (some true) []), (.list 0 (some true) []), (.int .i64 0), (.bool false)] []), .mk none (.store 4 (.t 2) (.t 11)), .mk none (.mov 3 (.v (.k (.c (.int .i64 7)))))]
def f17b6 : AQ := (.seq (.region f17r5) .ret)
def f17b7 : AQ := (.cond (.t 10) f17b6 .skip)
def f17r8 : LA := [.mk none (.faddr 8 3 (.t 1)), .mk none (.load 9 1 false (.t 8)), .mk none (.un 10 .not (.t 9))]
def f17b9 : AQ := (.seq (.region f17r8) f17b7)
def f17b10 : AQ := (.seq f17b9 f17b4)
def f17r11 : LA := [.mk none (.build 7 [(.list 0 (some true) []), (.list 0 (some true) []), (.int .i64 0), (.bool false)] []), .mk none (.store 4 (.t 2) (.t 7)), .mk none (.mov 3 (.v (.k (.c (.int .i64 1)))))]
def f17b12 : AQ := (.seq (.region f17r11) .ret)
def f17b13 : AQ := (.cond (.t 6) f17b12 .skip)
def f17r14 : LA := [.mk none (.load 4 4 true (.t 1)), .mk none (.call (some 5) 42 [(.t 4)]), .mk none (.bin 6 .neq (.t 5) (.v (.k (.c (.int .i64 0)))))]
def f17b15 : AQ := (.seq (.region f17r14) f17b13)
def f17b16 : AQ := (.seq f17b15 f17b10)
def f17r17 : LA := [.mk none (.box 1 25 (.t 0)), .mk none (.alloc 2 25 [(.list 0 (some true) []), (.list 0 (some true) []), (.int .i64 0), (.bool false)]), .mk none (.mov 3 (.v (.k (.c (.int .i64 0)))))]
def f17b18 : AQ := (.seq (.region f17r17) f17b16)
def f17 : AQ := f17b18
theorem hf17 : zG Tryz.prog 17 = some ⟨14, f17.erase, [(RX.cell 2 4 true), (RX.t 3)]⟩ := by kernel_rfl
theorem okf17 : f17.ok = true := by kernel_rfl
def f18r1 : LA := [.mk none (.load 4 4 true (.t 1)), .mk none (.call (some 5) 35 [(.t 4)]), .mk none (.extr 6 (.t 5) 0), .mk none (.extr 7 (.t 5) 1), .mk none (.mov 2 (.t 6)), .mk none (.mov 3 (.t 7))]
def f18b2 : AQ := (.seq (.region f18r1) .ret)
def f18r3 : LA := [.mk none (.box 1 25 (.t 0)), .mk none (.nilL 2 9 1), .mk none (.mov 3 (.v (.k (.c (.int .i64 0)))))]
def f18b4 : AQ := (.seq (.region f18r3) f18b2)
def f18 : AQ := f18b4
theorem hf18 : zG Tryz.prog 18 = some ⟨8, f18.erase, [(RX.t 2), (RX.t 3)]⟩ := by kernel_rfl
theorem okf18 : f18.ok = true := by kernel_rfl
def f19r1 : LA := [.mk none (.mov 66 (.t 8)), .mk none (.mov 2 (.t 66)), .mk none (.mov 3 (.v (.k (.c (.int .i64 0)))))]
def f19b2 : AQ := (.seq (.region f19r1) .ret)
def f19r3 : LA := [.mk none (.nilL 2 9 1), .mk none (.mov 3 (.v (.k (.c (.int .i64 22)))))]
def f19b4 : AQ := (.seq (.region f19r3) .ret)
def f19b5 : AQ := (.cond (.t 65) f19b4 .skip)
def f19r6 : LA := [.mk none (.mov 63 (.t 8)), .mk none (.len 64 (.t 63)), .mk none (.bin 65 .gtr (.t 64) (.v (.k (.c (.int .i64 500)))))]
def f19b7 : AQ := (.seq (.region f19r6) f19b5)
def f19b8 : AQ := (.seq f19b7 f19b2)
def f19r9 : LA := [.mk none (.mov 62 (.t 10)), .mk none (.mov 7 (.t 62))]
def f19r10 : LA := [.mk none (.mov 58 (.t 8)), .mk none (.mov 59 (.t 9)), .mk none (.bslice 60 9 1 [(.str [])] 1 [(0, (.t 59))]), .mk none (.append 61 9 1 16 (.t 58) (.t 60)), .mk none (.mov 8 (.t 61))]
def f19b11 : AQ := (.seq (.region f19r10) (.region f19r9))
def f19r12 : LA := [.mk none (.nilL 2 9 1), .mk none (.mov 3 (.v (.k (.c (.int .i64 22)))))]
def f19b13 : AQ := (.seq (.region f19r12) .ret)
def f19b14 : AQ := (.cond (.t 57) f19b13 .skip)
def f19r15 : LA := [.mk none (.mov 51 (.t 11)), .mk none (.un 52 .not (.t 51)), .mk none (.mov 53 (.t 52)), .mk (some (53, false)) (.mov 54 (.t 9)), .mk (some (53, false)) (.lenS 55 (.t 54)), .mk (some (53, false)) (.bin 56 .gtr (.t 55) (.v (.k (.c (.int .i64 2000))))), .mk none (.pick 57 (.t 53) (.v (.k (.c (.bool true)))) (.t 56))]
def f19b16 : AQ := (.seq (.region f19r15) f19b14)
def f19b17 : AQ := (.seq f19b16 f19b11)
def f19r18 : LA := [.mk none (.mov 46 (.t 7)), .mk none (.call (some 47) 47 [(.t 46)]), .mk none (.mov 45 (.t 47)), .mk none (.extr 48 (.t 45) 0), .mk none (.extr 49 (.t 45) 1), .mk none (.extr 50 (.t 45) 2), .mk none (.mov 9 (.t 48)), .mk none (.mov 10 (.t 49)), .mk none (.mov 11 (.t 50))]
def f19b19 : AQ := (.seq (.region f19r18) f19b17)
def f19b20 : AQ := (.block 1 f19b19)
def f19b21 : AQ := (.cond (.t 44) .skip (.exit 0))
def f19r22 : LA := [.mk none (.mov 42 (.t 7)), .mk none (.lenS 43 (.t 42)), .mk none (.bin 44 .gtr (.t 43) (.v (.k (.c (.int .i64 0)))))]
def f19b23 : AQ := (.seq (.region f19r22) f19b21)
def f19b24 : AQ := (.seq f19b23 f19b20)
def f19l25 : AQ := .loop [7, 8] [8, 61] f19b24
theorem zlg (P ts os Q) : awl P f19l25 Q ts os = awl P (.loop [7, 8] [8, 61] f19b24) Q ts os := id rfl
def f19b26 : AQ := (.block 0 f19l25)
def f19b27 : AQ := (.seq f19b26 f19b8)
def f19r28 : LA := [.mk none (.nilL 8 9 1)]
def f19b29 : AQ := (.seq (.region f19r28) f19b27)
def f19r30 : LA := [.mk none (.mov 39 (.t 5)), .mk none (.mov 40 (.t 6)), .mk none (.slstr 41 (.t 39) none (some (.t 40))), .mk none (.mov 7 (.t 41))]
def f19b31 : AQ := (.seq (.region f19r30) f19b29)
def f19r32 : LA := [.mk none (.nilL 2 9 1), .mk none (.mov 3 (.v (.k (.c (.int .i64 22)))))]
def f19b33 : AQ := (.seq (.region f19r32) .ret)
def f19b34 : AQ := (.cond (.t 38) f19b33 .skip)
def f19r35 : LA := [.mk none (.mov 35 (.t 6)), .mk none (.mov 36 (.t 5)), .mk none (.lenS 37 (.t 36)), .mk none (.bin 38 .gtr (.t 35) (.t 37))]
def f19b36 : AQ := (.seq (.region f19r35) f19b34)
def f19b37 : AQ := (.seq f19b36 f19b31)
def f19r38 : LA := [.mk none (.faddr 28 0 (.t 1)), .mk none (.load 29 1 false (.t 28)), .mk none (.load 30 4 true (.t 1)), .mk none (.call (some 31) 44 [(.t 30)]), .mk none (.iaddr 32 1 (.t 29) (.t 31)), .mk none (.load 33 1 false (.t 32)), .mk none (.call (some 34) 46 [(.t 33)]), .mk none (.mov 6 (.t 34))]
def f19b39 : AQ := (.seq (.draw f19r38 [[], [0], [], [2], [1, 3], [4], [5, 3], [6, 6, 0, 1, 2, 3, 4, 5, 6]]) f19b37)
def f19r40 : LA := [.mk none (.load 26 4 true (.t 1)), .mk none (.call (some 27) 45 [(.t 26)]), .mk none (.mov 5 (.t 27))]
def f19b41 : AQ := (.seq (.region f19r40) f19b39)
def f19r42 : LA := [.mk none (.nilL 2 9 1), .mk none (.mov 3 (.v (.k (.c (.int .i64 22)))))]
def f19b43 : AQ := (.seq (.region f19r42) .ret)
def f19b44 : AQ := (.cond (.t 25) f19b43 .skip)
def f19r45 : LA := [.mk none (.faddr 17 0 (.t 1)), .mk none (.load 18 1 false (.t 17)), .mk none (.len 19 (.t 18)), .mk none (.bin 20 .lss (.t 19) (.v (.k (.c (.int .i64 3))))), .mk none (.mov 21 (.t 20)), .mk (some (21, false)) (.load 22 4 true (.t 1)), .mk (some (21, false)) (.call (some 23) 44 [(.t 22)]), .mk (some (21, false)) (.bin 24 .lss (.t 23) (.v (.k (.c (.int .i64 0))))), .mk none (.pick 25 (.t 21) (.v (.k (.c (.bool true)))) (.t 24))]
def f19b46 : AQ := (.seq (.region f19r45) f19b44)
def f19b47 : AQ := (.seq f19b46 f19b41)
def f19r48 : LA := [.mk none (.mov 16 (.t 4)), .mk none (.nilL 2 9 1), .mk none (.mov 3 (.t 16))]
def f19b49 : AQ := (.seq (.region f19r48) .ret)
def f19b50 : AQ := (.cond (.t 15) f19b49 .skip)
def f19r51 : LA := [.mk none (.mov 14 (.t 4)), .mk none (.bin 15 .neq (.t 14) (.v (.k (.c (.int .i64 0)))))]
def f19b52 : AQ := (.seq (.region f19r51) f19b50)
def f19b53 : AQ := (.seq f19b52 f19b47)
def f19r54 : LA := [.mk none (.load 12 4 true (.t 1)), .mk none (.call (some 13) 43 [(.t 12)]), .mk none (.mov 4 (.t 13))]
def f19b55 : AQ := (.seq (.region f19r54) f19b53)
def f19r56 : LA := [.mk none (.box 1 25 (.t 0)), .mk none (.nilL 2 9 1), .mk none (.mov 3 (.v (.k (.c (.int .i64 0)))))]
def f19b57 : AQ := (.seq (.region f19r56) f19b55)
def f19 : AQ := f19b57
theorem hf19 : zG Tryz.prog 19 = some ⟨67, f19.erase, [(RX.t 2), (RX.t 3)]⟩ := by kernel_rfl
theorem okf19 : f19.ok = true := by kernel_rfl
def f20r1 : LA := [.mk none (.mov 4 (.v (.k (.c (.bool true)))))]
def f20b2 : AQ := (.seq (.region f20r1) .ret)
def f20r3 : LA := [.mk none (.mov 15 (.t 5)), .mk none (.bin 16 .add (.t 15) (.v (.k (.c (.int .i64 1))))), .mk none (.mov 5 (.t 16))]
def f20r4 : LA := [.mk none (.mov 4 (.v (.k (.c (.bool false)))))]
def f20b5 : AQ := (.seq (.region f20r4) .ret)
def f20b6 : AQ := (.cond (.t 25) f20b5 .skip)
def f20r7 : LA := [.mk none (.mov 17 (.t 0)), .mk none (.mov 18 (.t 5)), .mk none (.iaddr 19 1 (.t 17) (.t 18)), .mk none (.load 20 1 false (.t 19)), .mk none (.mov 21 (.t 1)), .mk none (.mov 22 (.t 5)), .mk none (.iaddr 23 1 (.t 21) (.t 22)), .mk none (.load 24 1 false (.t 23)), .mk none (.bin 25 .neq (.t 20) (.t 24))]
def f20b8 : AQ := (.seq (.draw f20r7 [[], [], [0, 1], [2], [], [], [4, 5], [6], [3, 7]]) f20b6)
def f20b9 : AQ := (.block 1 f20b8)
def f20b10 : AQ := (.seq f20b9 (.region f20r3))
def f20b11 : AQ := (.cond (.t 14) .skip (.exit 0))
def f20r12 : LA := [.mk none (.mov 11 (.t 5)), .mk none (.mov 12 (.t 0)), .mk none (.len 13 (.t 12)), .mk none (.bin 14 .lss (.t 11) (.t 13))]
def f20b13 : AQ := (.seq (.region f20r12) f20b11)
def f20b14 : AQ := (.seq f20b13 f20b10)
def f20l15 : AQ := .loop [0, 1, 5] [] f20b14
theorem zlh (P ts os Q) : awl P f20l15 Q ts os = awl P (.loop [0, 1, 5] [] f20b14) Q ts os := id rfl
def f20b16 : AQ := (.block 0 f20l15)
def f20r17 : LA := [.mk none (.mov 5 (.v (.k (.c (.int .i64 0)))))]
def f20b18 : AQ := (.seq (.region f20r17) f20b16)
def f20b19 : AQ := (.seq f20b18 f20b2)
def f20r20 : LA := [.mk none (.mov 4 (.v (.k (.c (.bool false)))))]
def f20b21 : AQ := (.seq (.region f20r20) .ret)
def f20b22 : AQ := (.cond (.t 10) f20b21 .skip)
def f20r23 : LA := [.mk none (.mov 6 (.t 0)), .mk none (.len 7 (.t 6)), .mk none (.mov 8 (.t 1)), .mk none (.len 9 (.t 8)), .mk none (.bin 10 .neq (.t 7) (.t 9))]
def f20b24 : AQ := (.seq (.region f20r23) f20b22)
def f20b25 : AQ := (.seq f20b24 f20b19)
def f20r26 : LA := [.mk none (.mov 4 (.v (.k (.c (.bool false)))))]
def f20b27 : AQ := (.seq (.region f20r26) f20b25)
def f20 : AQ := f20b27
theorem hf20 : zG Tryz.prog 20 = some ⟨26, f20.erase, [(RX.t 4)]⟩ := by kernel_rfl
theorem okf20 : f20.ok = true := by kernel_rfl
def f22r1 : LA := [.mk none (.mov 54 (.t 3)), .mk none (.mov 2 (.t 54))]
def f22b2 : AQ := (.seq (.region f22r1) .ret)
def f22r3 : LA := [.mk none (.mov 14 (.t 4)), .mk none (.bin 15 .add (.t 14) (.v (.k (.c (.int .i64 1))))), .mk none (.mov 4 (.t 15))]
def f22r4 : LA := [.mk none (.mov 22 (.t 5)), .mk none (.bin 23 .add (.t 22) (.v (.k (.c (.int .i64 1))))), .mk none (.mov 5 (.t 23))]
def f22r5 : LA := [.mk none (.mov 31 (.t 6)), .mk none (.bin 32 .add (.t 31) (.v (.k (.c (.int .i64 1))))), .mk none (.mov 6 (.t 32))]
def f22r6 : LA := [.mk none (.mov 45 (.t 3)), .mk none (.mov 46 (.t 0)), .mk none (.mov 47 (.t 4)), .mk none (.iaddr 48 1 (.t 46) (.t 47)), .mk none (.load 49 1 false (.t 48)), .mk none (.mov 50 (.t 6)), .mk none (.iaddr 51 1 (.t 49) (.t 50)), .mk none (.load 52 1 false (.t 51)), .mk none (.call (some 53) 51 [(.t 45), (.t 52)]), .mk none (.mov 3 (.t 53))]
def f22b7 : AQ := (.cond (.t 44) (.region f22r6) .skip)
def f22r8 : LA := [.mk none (.mov 33 (.t 0)), .mk none (.mov 34 (.t 5)), .mk none (.iaddr 35 1 (.t 33) (.t 34)), .mk none (.load 36 1 false (.t 35)), .mk none (.mov 37 (.t 0)), .mk none (.mov 38 (.t 4)), .mk none (.iaddr 39 1 (.t 37) (.t 38)), .mk none (.load 40 1 false (.t 39)), .mk none (.mov 41 (.t 6)), .mk none (.iaddr 42 1 (.t 40) (.t 41)), .mk none (.load 43 1 false (.t 42)), .mk none (.call (some 44) 27 [(.t 36), (.t 43)])]
def f22b9 : AQ := (.seq (.draw f22r8 [[], [], [0, 1], [2], [], [], [4, 5], [6], [], [7, 8], [9], [3, 10]]) f22b7)
def f22b10 : AQ := (.block 5 f22b9)
def f22b11 : AQ := (.seq f22b10 (.frz 53 (.region f22r5)))
def f22b12 : AQ := (.cond (.t 30) .skip (.exit 4))
def f22r13 : LA := [.mk none (.mov 24 (.t 6)), .mk none (.mov 25 (.t 0)), .mk none (.mov 26 (.t 4)), .mk none (.iaddr 27 1 (.t 25) (.t 26)), .mk none (.load 28 1 false (.t 27)), .mk none (.len 29 (.t 28)), .mk none (.bin 30 .lss (.t 24) (.t 29))]
def f22b14 : AQ := (.seq (.region f22r13) f22b12)
def f22b15 : AQ := (.seq f22b14 f22b11)
def f22l16 : AQ := .loop [0, 3, 4, 5, 6] [3, 53, 54000, 54001, 54002] f22b15
theorem zli (P ts os Q) : awl P f22l16 Q ts os = awl P (.loop [0, 3, 4, 5, 6] [3, 53, 54000, 54001, 54002] f22b15) Q ts os := id rfl
def f22b17 : AQ := (.block 4 f22l16)
def f22r18 : LA := [.mk none (.mov 6 (.v (.k (.c (.int .i64 0)))))]
def f22b19 : AQ := (.seq (.region f22r18) f22b17)
def f22b20 : AQ := (.block 3 f22b19)
def f22b21 : AQ := (.seq f22b20 (.region f22r4))
def f22b22 : AQ := (.cond (.t 21) .skip (.exit 2))
def f22r23 : LA := [.mk none (.mov 18 (.t 5)), .mk none (.mov 19 (.t 0)), .mk none (.len 20 (.t 19)), .mk none (.bin 21 .lss (.t 18) (.t 20))]
def f22b24 : AQ := (.seq (.region f22r23) f22b22)
def f22b25 : AQ := (.seq f22b24 f22b21)
def f22l26 : AQ := .loop [0, 3, 4, 5] [3, 53, 54000, 54001, 54002] f22b25
theorem zlj (P ts os Q) : awl P f22l26 Q ts os = awl P (.loop [0, 3, 4, 5] [3, 53, 54000, 54001, 54002] f22b25) Q ts os := id rfl
def f22b27 : AQ := (.block 2 f22l26)
def f22r28 : LA := [.mk none (.mov 16 (.t 4)), .mk none (.bin 17 .add (.t 16) (.v (.k (.c (.int .i64 1))))), .mk none (.mov 5 (.t 17))]
def f22b29 : AQ := (.seq (.region f22r28) f22b27)
def f22b30 : AQ := (.block 1 f22b29)
def f22b31 : AQ := (.seq f22b30 (.region f22r3))
def f22b32 : AQ := (.cond (.t 13) .skip (.exit 0))
def f22r33 : LA := [.mk none (.mov 10 (.t 4)), .mk none (.mov 11 (.t 0)), .mk none (.len 12 (.t 11)), .mk none (.bin 13 .lss (.t 10) (.t 12))]
def f22b34 : AQ := (.seq (.region f22r33) f22b32)
def f22b35 : AQ := (.seq f22b34 f22b31)
def f22l36 : AQ := .loop [0, 3, 4] [3, 53, 54000, 54001, 54002] f22b35
theorem zlk (P ts os Q) : awl P f22l36 Q ts os = awl P (.loop [0, 3, 4] [3, 53, 54000, 54001, 54002] f22b35) Q ts os := id rfl
def f22b37 : AQ := (.block 0 f22l36)
def f22r38 : LA := [.mk none (.mov 4 (.v (.k (.c (.int .i64 0)))))]
def f22b39 : AQ := (.seq (.region f22r38) f22b37)
def f22b40 : AQ := (.seq f22b39 f22b2)
def f22r41 : LA := [.mk none (.nilL 2 9 1)]
def f22b42 : AQ := (.seq (.region f22r41) .ret)
def f22b43 : AQ := (.cond (.t 9) f22b42 .skip)
def f22r44 : LA := [.mk none (.mov 7 (.t 0)), .mk none (.call (some 8) 29 [(.t 7)]), .mk none (.un 9 .not (.t 8))]
def f22b45 : AQ := (.seq (.region f22r44) f22b43)
def f22b46 : AQ := (.seq f22b45 f22b40)
def f22r47 : LA := [.mk none (.nilL 3 9 1)]
def f22b48 : AQ := (.seq (.region f22r47) (.frz 3 f22b46))
def f22r49 : LA := [.mk none (.nilL 2 9 1)]
def f22b50 : AQ := (.seq (.region f22r49) f22b48)
def f22 : AQ := f22b50
theorem hf22 : zG Tryz.prog 22 = some ⟨55, f22.erase, [(RX.t 2)]⟩ := by kernel_rfl
theorem okf22 : f22.ok = true := by kernel_rfl
def f24r1 : LA := [.mk none (.mov 41 (.t 6)), .mk none (.mov 4 (.t 41))]
def f24b2 : AQ := (.seq (.region f24r1) .ret)
def f24r3 : LA := [.mk none (.mov 22 (.t 7)), .mk none (.bin 23 .add (.t 22) (.v (.k (.c (.int .i64 1))))), .mk none (.mov 7 (.t 23))]
def f24r4 : LA := [.mk none (.mov 34 (.t 6)), .mk none (.mov 35 (.t 5)), .mk none (.mov 36 (.t 7)), .mk none (.iaddr 37 1 (.t 35) (.t 36)), .mk none (.load 38 1 false (.t 37)), .mk none (.bslice 39 9 1 [(.str [])] 1 [(0, (.t 38))]), .mk none (.append 40 9 1 16 (.t 34) (.t 39)), .mk none (.mov 6 (.t 40))]
def f24b5 : AQ := (.cond (.t 33) (.region f24r4) .skip)
def f24r6 : LA := [.mk none (.mov 24 (.t 0)), .mk none (.mov 25 (.t 1)), .mk none (.iaddr 26 1 (.t 24) (.t 25)), .mk none (.load 27 1 false (.t 26)), .mk none (.mov 28 (.t 5)), .mk none (.mov 29 (.t 7)), .mk none (.iaddr 30 1 (.t 28) (.t 29)), .mk none (.load 31 1 false (.t 30)), .mk none (.call (some 32) 27 [(.t 27), (.t 31)]), .mk none (.un 33 .not (.t 32))]
def f24b7 : AQ := (.seq (.draw f24r6 [[], [], [0, 1], [2], [], [], [4, 5], [6], [3, 7], [8]]) f24b5)
def f24b8 : AQ := (.block 1 f24b7)
def f24b9 : AQ := (.seq f24b8 (.region f24r3))
def f24b10 : AQ := (.cond (.t 21) .skip (.exit 0))
def f24r11 : LA := [.mk none (.mov 18 (.t 7)), .mk none (.mov 19 (.t 5)), .mk none (.len 20 (.t 19)), .mk none (.bin 21 .lss (.t 18) (.t 20))]
def f24b12 : AQ := (.seq (.region f24r11) f24b10)
def f24b13 : AQ := (.seq f24b12 f24b9)
def f24l14 : AQ := .loop [0, 1, 5, 6, 7] [6, 17, 40, 18000, 18001, 18002] f24b13
theorem zll (P ts os Q) : awl P f24l14 Q ts os = awl P (.loop [0, 1, 5, 6, 7] [6, 17, 40, 18000, 18001, 18002] f24b13) Q ts os := id rfl
def f24b15 : AQ := (.block 0 f24l14)
def f24r16 : LA := [.mk none (.mov 7 (.v (.k (.c (.int .i64 0)))))]
def f24b17 : AQ := (.seq (.region f24r16) f24b15)
def f24b18 : AQ := (.seq f24b17 f24b2)
def f24r19 : LA := [.mk none (.nilL 6 9 1)]
def f24b20 : AQ := (.seq (.region f24r19) f24b18)
def f24r21 : LA := [.mk none (.mov 16 (.t 0)), .mk none (.call (some 17) 22 [(.t 16)]), .mk none (.mov 5 (.t 17))]
def f24b22 : AQ := (.seq (.region f24r21) f24b20)
def f24r23 : LA := [.mk none (.nilL 4 9 1)]
def f24b24 : AQ := (.seq (.region f24r23) .ret)
def f24b25 : AQ := (.cond (.t 15) f24b24 .skip)
def f24r26 : LA := [.mk none (.mov 8 (.t 1)), .mk none (.bin 9 .lss (.t 8) (.v (.k (.c (.int .i64 0))))), .mk none (.mov 10 (.t 9)), .mk (some (10, false)) (.mov 11 (.t 1)), .mk (some (10, false)) (.mov 12 (.t 0)), .mk (some (10, false)) (.len 13 (.t 12)), .mk (some (10, false)) (.bin 14 .geq (.t 11) (.t 13)), .mk none (.pick 15 (.t 10) (.v (.k (.c (.bool true)))) (.t 14))]
def f24b27 : AQ := (.seq (.region f24r26) f24b25)
def f24b28 : AQ := (.seq f24b27 f24b22)
def f24r29 : LA := [.mk none (.nilL 4 9 1)]
def f24b30 : AQ := (.seq (.region f24r29) f24b28)
def f24 : AQ := f24b30
theorem hf24 : zG Tryz.prog 24 = some ⟨42, f24.erase, [(RX.t 4)]⟩ := by kernel_rfl
theorem okf24 : f24.ok = true := by kernel_rfl
def f25r1 : LA := [.mk none (.load 49 4 true (.t 2)), .mk none (.mov 50 (.t 7)), .mk none (.store 4 (.t 4) (.t 49)), .mk none (.mov 5 (.t 50)), .mk none (.mov 6 (.v (.k (.c (.int .i64 0)))))]
def f25b2 : AQ := (.seq (.region f25r1) .ret)
def f25r3 : LA := [.mk none (.bin 48 .add (.t 14) (.v (.k (.c (.int .i64 1))))), .mk none (.mov 14 (.t 48))]
def f25r4 : LA := [.mk none (.mov 28 (.t 7)), .mk none (.bin 29 .add (.t 28) (.v (.k (.c (.int .i64 1))))), .mk none (.mov 7 (.t 29))]
def f25r5 : LA := [.mk none (.load 27 4 true (.t 10)), .mk none (.store 4 (.t 2) (.t 27))]
def f25b6 : AQ := (.seq (.region f25r5) (.region f25r4))
def f25r7 : LA := [.mk none (.load 39 4 true (.t 10)), .mk none (.mov 40 (.t 7)), .mk none (.mov 41 (.t 11)), .mk none (.store 4 (.t 4) (.t 39)), .mk none (.mov 5 (.t 40)), .mk none (.mov 6 (.t 41))]
def f25b8 : AQ := (.seq (.region f25r7) .ret)
def f25r9 : LA := [.mk none (.load 45 4 true (.t 2)), .mk none (.mov 46 (.t 7)), .mk none (.mov 47 (.t 11)), .mk none (.store 4 (.t 4) (.t 45)), .mk none (.mov 5 (.t 46)), .mk none (.mov 6 (.t 47))]
def f25b10 : AQ := (.seq (.region f25r9) .ret)
def f25b11 : AQ := (.cond (.t 42) f25b10 .skip)
def f25r12 : LA := [.mk none (.mov 43 (.t 11)), .mk none (.bin 44 .neq (.t 43) (.v (.k (.c (.int .i64 5))))), .mk none (.mov 42 (.t 44))]
def f25b13 : AQ := (.seq (.region f25r12) f25b11)
def f25b14 : AQ := (.cond (.t 30) f25b8 f25b13)
def f25r15 : LA := [.mk none (.mov 31 (.t 11)), .mk none (.bin 32 .eql (.t 31) (.v (.k (.c (.int .i64 8))))), .mk none (.mov 33 (.t 32)), .mk (some (33, true)) (.faddr 34 0 (.t 10)), .mk (some (33, true)) (.load 35 1 false (.t 34)), .mk (some (33, true)) (.len 36 (.t 35)), .mk (some (33, true)) (.bin 37 .gtr (.t 36) (.v (.k (.c (.int .i64 0))))), .mk none (.pick 38 (.t 33) (.t 37) (.v (.k (.c (.bool false))))), .mk none (.mov 30 (.t 38))]
def f25b16 : AQ := (.seq (.region f25r15) f25b14)
def f25b17 : AQ := (.cond (.t 24) f25b6 f25b16)
def f25r18 : LA := [.mk none (.mov 25 (.t 11)), .mk none (.bin 26 .eql (.t 25) (.v (.k (.c (.int .i64 0))))), .mk none (.mov 24 (.t 26))]
def f25b19 : AQ := (.seq (.region f25r18) f25b17)
def f25b20 : AQ := (.block 2 f25b19)
def f25r21 : LA := [.mk none (.load 19 4 true (.t 2)), .mk none (.mov 20 (.t 9)), .mk none (.call (some 21) 14 [(.t 19), (.t 20)]), .mk none (.mov 18 (.t 21)), .mk none (.extr 22 (.t 18) 0), .mk none (.extr 23 (.t 18) 1), .mk none (.alloc 10 25 [(.list 0 (some true) []), (.list 0 (some true) []), (.int .i64 0), (.bool false)]), .mk none (.store 4 (.t 10) (.t 22)), .mk none (.mov 11 (.t 23))]
def f25b22 : AQ := (.seq (.region f25r21) f25b20)
def f25r23 : LA := [.mk none (.iaddr 16 1 (.t 12) (.t 14)), .mk none (.load 17 1 false (.t 16)), .mk none (.mov 9 (.t 17))]
def f25b24 : AQ := (.seq (.region f25r23) f25b22)
def f25b25 : AQ := (.block 1 f25b24)
def f25b26 : AQ := (.seq f25b25 (.region f25r3))
def f25b27 : AQ := (.cond (.t 15) .skip (.exit 0))
def f25b28 : AQ := (.seq f25b27 f25b26)
def f25r29 : LA := [.mk none (.bin 15 .lss (.t 14) (.t 13))]
def f25b30 : AQ := (.seq (.region f25r29) f25b28)
def f25l31 : AQ := .loop [2, 4, 7, 12, 13, 14] [2, 4, 21, 22000, 22001, 22002] f25b30
theorem zgS (P ts os Q) : awl P f25l31 Q ts os = awl P (.loop [2, 4, 7, 12, 13, 14] [2, 4, 21, 22000, 22001, 22002] f25b30) Q ts os := id rfl
def f25b32 : AQ := (.block 0 f25l31)
def f25r33 : LA := [.mk none (.mov 12 (.t 1)), .mk none (.len 13 (.t 12)), .mk none (.mov 14 (.v (.k (.c (.int .i64 0)))))]
def f25b34 : AQ := (.seq (.region f25r33) f25b32)
def f25b35 : AQ := (.seq f25b34 f25b2)
def f25r36 : LA := [.mk none (.mov 7 (.v (.k (.c (.int .i64 0)))))]
def f25b37 : AQ := (.seq (.region f25r36) f25b35)
def f25r38 : LA := [.mk none (.box 2 25 (.t 0)), .mk none (.alloc 4 25 [(.list 0 (some true) []), (.list 0 (some true) []), (.int .i64 0), (.bool false)]), .mk none (.mov 5 (.v (.k (.c (.int .i64 0))))), .mk none (.mov 6 (.v (.k (.c (.int .i64 0)))))]
def f25b39 : AQ := (.seq (.region f25r38) f25b37)
def f25 : AQ := f25b39
theorem hf25 : zG Tryz.prog 25 = some ⟨51, f25.erase, [(RX.cell 4 4 true), (RX.t 5), (RX.t 6)]⟩ := by kernel_rfl
theorem okf25 : f25.ok = true := by kernel_rfl
def f26r1 : LA := [.mk none (.load 47 4 true (.t 2)), .mk none (.mov 48 (.t 7)), .mk none (.store 4 (.t 4) (.t 47)), .mk none (.mov 5 (.t 48)), .mk none (.mov 6 (.v (.k (.c (.int .i64 0)))))]
def f26b2 : AQ := (.seq (.region f26r1) .ret)
def f26r3 : LA := [.mk none (.mov 15 (.t 8)), .mk none (.bin 16 .add (.t 15) (.v (.k (.c (.int .i64 1))))), .mk none (.mov 8 (.t 16))]
def f26r4 : LA := [.mk none (.mov 29 (.t 7)), .mk none (.bin 30 .add (.t 29) (.v (.k (.c (.int .i64 1))))), .mk none (.mov 7 (.t 30))]
def f26r5 : LA := [.mk none (.load 28 4 true (.t 9)), .mk none (.store 4 (.t 2) (.t 28))]
def f26b6 : AQ := (.seq (.region f26r5) (.region f26r4))
def f26r7 : LA := [.mk none (.load 44 4 true (.t 2)), .mk none (.mov 45 (.t 7)), .mk none (.mov 46 (.t 10)), .mk none (.store 4 (.t 4) (.t 44)), .mk none (.mov 5 (.t 45)), .mk none (.mov 6 (.t 46))]
def f26b8 : AQ := (.seq (.region f26r7) .ret)
def f26r9 : LA := [.mk none (.load 41 4 true (.t 9)), .mk none (.mov 42 (.t 7)), .mk none (.mov 43 (.t 10)), .mk none (.store 4 (.t 4) (.t 41)), .mk none (.mov 5 (.t 42)), .mk none (.mov 6 (.t 43))]
def f26b10 : AQ := (.seq (.region f26r9) .ret)
def f26b11 : AQ := (.cond (.t 40) f26b10 .skip)
def f26r12 : LA := [.mk none (.mov 33 (.t 10)), .mk none (.bin 34 .eql (.t 33) (.v (.k (.c (.int .i64 8))))), .mk none (.mov 35 (.t 34)), .mk (some (35, true)) (.faddr 36 0 (.t 9)), .mk (some (35, true)) (.load 37 1 false (.t 36)), .mk (some (35, true)) (.len 38 (.t 37)), .mk (some (35, true)) (.bin 39 .gtr (.t 38) (.v (.k (.c (.int .i64 0))))), .mk none (.pick 40 (.t 35) (.t 39) (.v (.k (.c (.bool false)))))]
def f26b13 : AQ := (.seq (.region f26r12) f26b11)
def f26b14 : AQ := (.seq f26b13 f26b8)
def f26b15 : AQ := (.cond (.t 32) f26b14 .skip)
def f26r16 : LA := [.mk none (.mov 31 (.t 10)), .mk none (.bin 32 .neq (.t 31) (.v (.k (.c (.int .i64 5)))))]
def f26b17 : AQ := (.seq (.region f26r16) f26b15)
def f26b18 : AQ := (.cond (.t 27) f26b6 f26b17)
def f26r19 : LA := [.mk none (.mov 26 (.t 10)), .mk none (.bin 27 .eql (.t 26) (.v (.k (.c (.int .i64 0)))))]
def f26b20 : AQ := (.seq (.region f26r19) f26b18)
def f26r21o0 : AI := .mk none (.load 18 4 true (.t 2))
def f26r21o1 : AI := .mk none (.mov 19 (.t 1))
def f26r21o2 : AI := .mk none (.mov 20 (.t 8))
def f26r21o3 : AI := .mk none (.iaddr 21 1 (.t 19) (.t 20))
def f26r21o4 : AI := .mk none (.load 22 1 false (.t 21))
def f26r21o5 : AI := .mk none (.call (some 23) 15 [(.t 18), (.t 22)])
def f26r21o6 : AI := .mk none (.mov 17 (.t 23))
def f26r21o7 : AI := .mk none (.extr 24 (.t 17) 0)
def f26r21o8 : AI := .mk none (.extr 25 (.t 17) 1)
def f26r21o9 : AI := .mk none (.alloc 9 25 [(.list 0 (some true) []), (.list 0 (some true) []), (.int .i64 0), (.bool false)])
def f26r21o10 : AI := .mk none (.store 4 (.t 9) (.t 24))
def f26r21o11 : AI := .mk none (.mov 10 (.t 25))
def f26r21 : LA := [f26r21o0, f26r21o1, f26r21o2, f26r21o3, f26r21o4, f26r21o5, f26r21o6, f26r21o7, f26r21o8, f26r21o9, f26r21o10, f26r21o11]
theorem zgT : xY f26r21 [[], [], [], [1, 2], [3], [0, 4], [5], [6], [6], [], [9, 7, 5, 0, 1, 2, 3, 4, 5, 6, 7, 9], [8, 10, 0, 1, 2, 3, 4, 5, 6, 7, 8, 9, 10]] = (.one f26r21o9 (.one f26r21o0 (.one f26r21o1 (.one f26r21o2 (.one f26r21o3 (.one f26r21o4 (.one f26r21o5 (.one f26r21o6 (.one f26r21o7 (.alt (.one f26r21o8 (.one f26r21o10 (.one f26r21o11 .done))) (.alt (.one f26r21o10 (.one f26r21o8 (.one f26r21o11 .done))) .top))))))))))) := by kernel_rfl
def f26b22 : AQ := (.seq (.tree f26r21 [[], [], [], [1, 2], [3], [0, 4], [5], [6], [6], [], [9, 7, 5, 0, 1, 2, 3, 4, 5, 6, 7, 9], [8, 10, 0, 1, 2, 3, 4, 5, 6, 7, 8, 9, 10]]) (.keep [1, 2, 4, 7, 8, 9, 10] [2, 4, 9, 23, 24000, 24001, 24002] f26b20))
def f26b23 : AQ := (.block 1 f26b22)
def f26b24 : AQ := (.seq f26b23 (.region f26r3))
def f26b25 : AQ := (.cond (.t 14) .skip (.exit 0))
def f26r26 : LA := [.mk none (.mov 11 (.t 8)), .mk none (.mov 12 (.t 1)), .mk none (.len 13 (.t 12)), .mk none (.bin 14 .lss (.t 11) (.t 13))]
def f26b27 : AQ := (.seq (.region f26r26) f26b25)
def f26b28 : AQ := (.seq f26b27 f26b24)
def f26l29 : AQ := .loop [1, 2, 4, 7, 8] [2, 4, 23, 24000, 24001, 24002] f26b28
theorem zgU (P ts os Q) : awl P f26l29 Q ts os = awl P (.loop [1, 2, 4, 7, 8] [2, 4, 23, 24000, 24001, 24002] f26b28) Q ts os := id rfl
def f26b30 : AQ := (.block 0 f26l29)
def f26r31 : LA := [.mk none (.mov 8 (.v (.k (.c (.int .i64 0)))))]
def f26b32 : AQ := (.seq (.region f26r31) f26b30)
def f26b33 : AQ := (.seq f26b32 f26b2)
def f26r34 : LA := [.mk none (.mov 7 (.v (.k (.c (.int .i64 0)))))]
def f26b35 : AQ := (.seq (.region f26r34) f26b33)
def f26r36 : LA := [.mk none (.box 2 25 (.t 0)), .mk none (.alloc 4 25 [(.list 0 (some true) []), (.list 0 (some true) []), (.int .i64 0), (.bool false)]), .mk none (.mov 5 (.v (.k (.c (.int .i64 0))))), .mk none (.mov 6 (.v (.k (.c (.int .i64 0)))))]
def f26b37 : AQ := (.seq (.region f26r36) f26b35)
def f26 : AQ := f26b37
theorem hf26 : zG Tryz.prog 26 = some ⟨49, f26.erase, [(RX.cell 4 4 true), (RX.t 5), (RX.t 6)]⟩ := by kernel_rfl
theorem okf26 : f26.ok = true := by kernel_rfl
def f27r1 : LA := [.mk none (.mov 4 (.v (.k (.c (.bool false)))))]
def f27b2 : AQ := (.seq (.region f27r1) .ret)
def f27r3 : LA := [.mk none (.mov 10 (.t 5)), .mk none (.bin 11 .add (.t 10) (.v (.k (.c (.int .i64 1))))), .mk none (.mov 5 (.t 11))]
def f27r4 : LA := [.mk none (.mov 4 (.v (.k (.c (.bool true)))))]
def f27b5 : AQ := (.seq (.region f27r4) .ret)
def f27b6 : AQ := (.cond (.t 17) f27b5 .skip)
def f27r7 : LA := [.mk none (.mov 12 (.t 0)), .mk none (.mov 13 (.t 5)), .mk none (.iaddr 14 1 (.t 12) (.t 13)), .mk none (.load 15 1 false (.t 14)), .mk none (.mov 16 (.t 1)), .mk none (.bin 17 .eql (.t 15) (.t 16))]
def f27b8 : AQ := (.seq (.region f27r7) f27b6)
def f27b9 : AQ := (.block 1 f27b8)
def f27b10 : AQ := (.seq f27b9 (.region f27r3))
def f27b11 : AQ := (.cond (.t 9) .skip (.exit 0))
def f27r12 : LA := [.mk none (.mov 6 (.t 5)), .mk none (.mov 7 (.t 0)), .mk none (.len 8 (.t 7)), .mk none (.bin 9 .lss (.t 6) (.t 8))]
def f27b13 : AQ := (.seq (.region f27r12) f27b11)
def f27b14 : AQ := (.seq f27b13 f27b10)
def f27l15 : AQ := .loop [0, 1, 5] [] f27b14
theorem zlm (P ts os Q) : awl P f27l15 Q ts os = awl P (.loop [0, 1, 5] [] f27b14) Q ts os := id rfl
def f27b16 : AQ := (.block 0 f27l15)
def f27r17 : LA := [.mk none (.mov 5 (.v (.k (.c (.int .i64 0)))))]
def f27b18 : AQ := (.seq (.region f27r17) f27b16)
def f27b19 : AQ := (.seq f27b18 f27b2)
def f27r20 : LA := [.mk none (.mov 4 (.v (.k (.c (.bool false)))))]
def f27b21 : AQ := (.seq (.region f27r20) f27b19)
def f27 : AQ := f27b21
theorem hf27 : zG Tryz.prog 27 = some ⟨18, f27.erase, [(RX.t 4)]⟩ := by kernel_rfl
theorem okf27 : f27.ok = true := by kernel_rfl
def f28r1 : LA := [.mk none (.load 24 4 true (.t 2)), .mk none (.store 4 (.t 4) (.t 24)), .mk none (.mov 5 (.v (.k (.c (.int .i64 0)))))]
def f28b2 : AQ := (.seq (.region f28r1) .ret)
def f28r3 : LA := [.mk none (.mov 22 (.t 1)), .mk none (.faddr 23 2 (.t 2)), .mk none (.store 1 (.t 23) (.t 22))]
def f28b4 : AQ := (.seq (.region f28r3) f28b2)
def f28r5 : LA := [.mk none (.load 20 4 true (.t 2)), .mk none (.call (some 21) 55 [(.t 20)]), .mk none (.store 4 (.t 2) (.t 21))]
def f28b6 : AQ := (.seq (.region f28r5) f28b4)
def f28r7 : LA := [.mk none (.build 19 [(.list 0 (some true) []), (.list 0 (some true) []), (.int .i64 0), (.bool false)] []), .mk none (.store 4 (.t 4) (.t 19)), .mk none (.mov 5 (.v (.k (.c (.int .i64 1)))))]
def f28b8 : AQ := (.seq (.region f28r7) .ret)
def f28b9 : AQ := (.cond (.t 18) f28b8 .skip)
def f28r10 : LA := [.mk none (.mov 13 (.t 1)), .mk none (.bin 14 .lss (.t 13) (.v (.k (.c (.int .i64 0))))), .mk none (.mov 15 (.t 14)), .mk (some (15, false)) (.mov 16 (.t 1)), .mk (some (15, false)) (.bin 17 .gtr (.t 16) (.v (.k (.c (.int .i64 512))))), .mk none (.pick 18 (.t 15) (.v (.k (.c (.bool true)))) (.t 17))]
def f28b11 : AQ := (.seq (.region f28r10) f28b9)
def f28b12 : AQ := (.seq f28b11 f28b6)
def f28r13 : LA := [.mk none (.build 11 [(.list 0 (some true) []), (.list 0 (some true) []), (.int .i64 0), (.bool false)] []), .mk none (.mov 12 (.t 6)), .mk none (.store 4 (.t 4) (.t 11)), .mk none (.mov 5 (.t 12))]
def f28b14 : AQ := (.seq (.region f28r13) .ret)
def f28b15 : AQ := (.cond (.t 10) f28b14 .skip)
def f28r16 : LA := [.mk none (.mov 9 (.t 6)), .mk none (.bin 10 .neq (.t 9) (.v (.k (.c (.int .i64 0)))))]
def f28b17 : AQ := (.seq (.region f28r16) f28b15)
def f28r18 : LA := [.mk none (.load 7 4 true (.t 2)), .mk none (.call (some 8) 54 [(.t 7)]), .mk none (.mov 6 (.t 8))]
def f28b19 : AQ := (.seq (.region f28r18) f28b17)
def f28b20 : AQ := (.seq f28b19 f28b12)
def f28r21 : LA := [.mk none (.box 2 25 (.t 0)), .mk none (.alloc 4 25 [(.list 0 (some true) []), (.list 0 (some true) []), (.int .i64 0), (.bool false)]), .mk none (.mov 5 (.v (.k (.c (.int .i64 0)))))]
def f28b22 : AQ := (.seq (.region f28r21) f28b20)
def f28 : AQ := f28b22
theorem hf28 : zG Tryz.prog 28 = some ⟨25, f28.erase, [(RX.cell 4 4 true), (RX.t 5)]⟩ := by kernel_rfl
theorem okf28 : f28.ok = true := by kernel_rfl
def f29r1 : LA := [.mk none (.mov 20 (.t 0)), .mk none (.len 21 (.t 20)), .mk none (.bin 22 .leq (.t 21) (.v (.k (.c (.int .i64 3))))), .mk none (.mov 2 (.t 22))]
def f29b2 : AQ := (.seq (.region f29r1) .ret)
def f29r3 : LA := [.mk none (.mov 12 (.t 3)), .mk none (.bin 13 .add (.t 12) (.v (.k (.c (.int .i64 1))))), .mk none (.mov 3 (.t 13))]
def f29r4 : LA := [.mk none (.mov 2 (.v (.k (.c (.bool false)))))]
def f29b5 : AQ := (.seq (.region f29r4) .ret)
def f29b6 : AQ := (.cond (.t 19) f29b5 .skip)
def f29r7 : LA := [.mk none (.mov 14 (.t 0)), .mk none (.mov 15 (.t 3)), .mk none (.iaddr 16 1 (.t 14) (.t 15)), .mk none (.load 17 1 false (.t 16)), .mk none (.len 18 (.t 17)), .mk none (.bin 19 .gtr (.t 18) (.v (.k (.c (.int .i64 500)))))]
def f29b8 : AQ := (.seq (.region f29r7) f29b6)
def f29b9 : AQ := (.block 1 f29b8)
def f29b10 : AQ := (.seq f29b9 (.region f29r3))
def f29b11 : AQ := (.cond (.t 11) .skip (.exit 0))
def f29r12 : LA := [.mk none (.mov 4 (.t 3)), .mk none (.mov 5 (.t 0)), .mk none (.len 6 (.t 5)), .mk none (.bin 7 .lss (.t 4) (.t 6)), .mk none (.mov 8 (.t 7)), .mk (some (8, true)) (.mov 9 (.t 3)), .mk (some (8, true)) (.bin 10 .lss (.t 9) (.v (.k (.c (.int .i64 5))))), .mk none (.pick 11 (.t 8) (.t 10) (.v (.k (.c (.bool false)))))]
def f29b13 : AQ := (.seq (.region f29r12) f29b11)
def f29b14 : AQ := (.seq f29b13 f29b10)
def f29l15 : AQ := .loop [0, 3] [] f29b14
theorem zln (P ts os Q) : awl P f29l15 Q ts os = awl P (.loop [0, 3] [] f29b14) Q ts os := id rfl
def f29b16 : AQ := (.block 0 f29l15)
def f29r17 : LA := [.mk none (.mov 3 (.v (.k (.c (.int .i64 0)))))]
def f29b18 : AQ := (.seq (.region f29r17) f29b16)
def f29b19 : AQ := (.seq f29b18 f29b2)
def f29r20 : LA := [.mk none (.mov 2 (.v (.k (.c (.bool false)))))]
def f29b21 : AQ := (.seq (.region f29r20) f29b19)
def f29 : AQ := f29b21
theorem hf29 : zG Tryz.prog 29 = some ⟨23, f29.erase, [(RX.t 2)]⟩ := by kernel_rfl
theorem okf29 : f29.ok = true := by kernel_rfl
def f31r1 : LA := [.mk none (.call (some 11) 57 [(.v (.k (.c (.str [0])))), (.v (.k (.c (.int .i64 16))))]), .mk none (.bslice 12 9 1 [(.str [])] 1 [(0, (.t 11))]), .mk none (.mov 13 (.t 0)), .mk none (.call (some 14) 56 [(.t 12), (.t 13)]), (AI.mk none (.build 15 [(.list 0 (some true) []), (.list 0 (some true) []), (.int .i64 0), (.bool false)] [(0, (1, (.t 14))), (2, (1, (.v (.k (.c (.int .i64 (-1)))))))])), .mk none (.store 4 (.t 2) (.t 15)), .mk none (.mov 3 (.v (.k (.c (.int .i64 0)))))]
def f31b2 : AQ := (.seq (.region f31r1) .ret)
def f31r3 : LA := [.mk none (.build 10 [(.list 0 (some true) []), (.list 0 (some true) []), (.int .i64 0), (.bool false)] []), .mk none (.store 4 (.t 2) (.t 10)), .mk none (.mov 3 (.v (.k (.c (.int .i64 1)))))]
def f31b4 : AQ := (.seq (.region f31r3) .ret)
def f31b5 : AQ := (.cond (.t 9) f31b4 .skip)
def f31r6 : LA := [.mk none (.mov 4 (.t 0)), .mk none (.bin 5 .lss (.t 4) (.v (.k (.c (.int .i64 1))))), .mk none (.mov 6 (.t 5)), .mk (some (6, false)) (.mov 7 (.t 0)), .mk (some (6, false)) (.bin 8 .gtr (.t 7) (.v (.k (.c (.int .i64 512))))), .mk none (.pick 9 (.t 6) (.v (.k (.c (.bool true)))) (.t 8))]
def f31b7 : AQ := (.seq (.region f31r6) f31b5)
def f31b8 : AQ := (.seq f31b7 f31b2)
def f31r9 : LA := [.mk none (.alloc 2 25 [(.list 0 (some true) []), (.list 0 (some true) []), (.int .i64 0), (.bool false)]), .mk none (.mov 3 (.v (.k (.c (.int .i64 0)))))]
def f31b10 : AQ := (.seq (.region f31r9) f31b8)
def f31 : AQ := f31b10
theorem hf31 : zG Tryz.prog 31 = some ⟨16, f31.erase, [(RX.cell 2 4 true), (RX.t 3)]⟩ := by kernel_rfl
theorem okf31 : f31.ok = true := by kernel_rfl
def f32r1 : LA := [.mk none (.load 28 4 true (.t 1)), .mk none (.call (some 29) 61 [(.t 28)]), .mk none (.extr 30 (.t 29) 0), .mk none (.extr 31 (.t 29) 1), .mk none (.store 4 (.t 2) (.t 30)), .mk none (.mov 3 (.t 31))]
def f32b2 : AQ := (.seq (.region f32r1) .ret)
def f32r3 : LA := [.mk none (.bin 27 .add (.t 17) (.v (.k (.c (.int .i64 1))))), .mk none (.mov 17 (.t 27))]
def f32r4o0 : AI := .mk none (.load 21 4 true (.t 1))
def f32r4o1 : AI := .mk none (.mov 22 (.t 5))
def f32r4o2 : AI := .mk none (.call (some 23) 60 [(.v (.k (.c (.int .i64 0))))])
def f32r4o3 : AI := .mk none (.call (some 24) 59 [(.t 21), (.t 22), (.t 23)])
def f32r4o4 : AI := .mk none (.mov 20 (.t 24))
def f32r4o5 : AI := .mk none (.extr 25 (.t 20) 0)
def f32r4o6 : AI := .mk none (.extr 26 (.t 20) 1)
def f32r4o7 : AI := .mk none (.store 4 (.t 1) (.t 25))
def f32r4 : LA := [f32r4o0, f32r4o1, f32r4o2, f32r4o3, f32r4o4, f32r4o5, f32r4o6, f32r4o7]
theorem zlo : xY f32r4 [[], [], [], [0, 1, 2, 2], [3], [4], [4], [5, 3, 0, 1, 2, 3, 4, 5]] = (.one f32r4o0 (.one f32r4o1 (.one f32r4o2 (.one f32r4o3 (.one f32r4o4 (.one f32r4o5 (.alt (.one f32r4o6 (.one f32r4o7 .done)) (.alt (.one f32r4o7 (.one f32r4o6 .done)) .top)))))))) := by kernel_rfl
def f32r5 : LA := [.mk none (.mov 19 (.t 17)), .mk none (.mov 5 (.t 19))]
def f32b6 : AQ := (.seq (.region f32r5) (.tree f32r4 [[], [], [], [0, 1, 2, 2], [3], [4], [4], [5, 3, 0, 1, 2, 3, 4, 5]]))
def f32b7 : AQ := (.block 1 f32b6)
def f32b8 : AQ := (.seq f32b7 (.region f32r3))
def f32b9 : AQ := (.cond (.t 18) .skip (.exit 0))
def f32b10 : AQ := (.seq f32b9 f32b8)
def f32r11 : LA := [.mk none (.bin 18 .lss (.t 17) (.v (.k (.c (.int .i64 2)))))]
def f32b12 : AQ := (.seq (.region f32r11) f32b10)
def f32l13 : AQ := .loop [1, 2, 17] [1, 2, 24, 29, 25000, 25001, 25002, 30000, 30001, 30002] f32b12
theorem zlp (P ts os Q) : awl P f32l13 Q ts os = awl P (.loop [1, 2, 17] [1, 2, 24, 29, 25000, 25001, 25002, 30000, 30001, 30002] f32b12) Q ts os := id rfl
def f32b14 : AQ := (.block 0 f32l13)
def f32r15 : LA := [.mk none (.mov 17 (.v (.k (.c (.int .i64 0)))))]
def f32b16 : AQ := (.seq (.region f32r15) f32b14)
def f32b17 : AQ := (.seq f32b16 f32b2)
def f32r18 : LA := [.mk none (.build 16 [(.list 0 (some true) []), (.list 0 (some true) []), (.int .i64 0), (.bool false)] []), .mk none (.store 4 (.t 2) (.t 16)), .mk none (.mov 3 (.v (.k (.c (.int .i64 6)))))]
def f32b19 : AQ := (.seq (.region f32r18) .ret)
def f32b20 : AQ := (.cond (.t 15) f32b19 .skip)
def f32r21 : LA := [.mk none (.faddr 12 0 (.t 1)), .mk none (.load 13 1 false (.t 12)), .mk none (.len 14 (.t 13)), .mk none (.bin 15 .leq (.t 14) (.v (.k (.c (.int .i64 2)))))]
def f32b22 : AQ := (.seq (.region f32r21) f32b20)
def f32b23 : AQ := (.seq f32b22 f32b17)
def f32r24 : LA := [.mk none (.build 10 [(.list 0 (some true) []), (.list 0 (some true) []), (.int .i64 0), (.bool false)] []), .mk none (.mov 11 (.t 4)), .mk none (.store 4 (.t 2) (.t 10)), .mk none (.mov 3 (.t 11))]
def f32b25 : AQ := (.seq (.region f32r24) .ret)
def f32b26 : AQ := (.cond (.t 9) f32b25 .skip)
def f32r27 : LA := [.mk none (.mov 8 (.t 4)), .mk none (.bin 9 .neq (.t 8) (.v (.k (.c (.int .i64 0)))))]
def f32b28 : AQ := (.seq (.region f32r27) f32b26)
def f32r29 : LA := [.mk none (.load 6 4 true (.t 1)), .mk none (.call (some 7) 58 [(.t 6)]), .mk none (.mov 4 (.t 7))]
def f32b30 : AQ := (.seq (.region f32r29) f32b28)
def f32b31 : AQ := (.seq f32b30 f32b23)
def f32r32 : LA := [.mk none (.box 1 25 (.t 0)), .mk none (.alloc 2 25 [(.list 0 (some true) []), (.list 0 (some true) []), (.int .i64 0), (.bool false)]), .mk none (.mov 3 (.v (.k (.c (.int .i64 0)))))]
def f32b33 : AQ := (.seq (.region f32r32) f32b31)
def f32 : AQ := f32b33
theorem hf32 : zG Tryz.prog 32 = some ⟨32, f32.erase, [(RX.cell 2 4 true), (RX.t 3)]⟩ := by kernel_rfl
theorem okf32 : f32.ok = true := by kernel_rfl
def f33r1 : LA := [.mk none (.load 25 4 true (.t 4)), .mk none (.store 4 (.t 2) (.t 25)), .mk none (.mov 3 (.v (.k (.c (.int .i64 0)))))]
def f33b2 : AQ := (.seq (.region f33r1) .ret)
def f33r3 : LA := [.mk none (.mov 17 (.t 5)), .mk none (.bin 18 .add (.t 17) (.v (.k (.c (.int .i64 1))))), .mk none (.mov 5 (.t 18))]
def f33r4 : LA := [.mk none (.faddr 19 0 (.t 4)), .mk none (.load 20 1 false (.t 19)), .mk none (.call (some 21) 62 [(.v (.k (.c (.int .i64 16))))]), .mk none (.bslice 22 9 1 [(.str [])] 1 [(0, (.t 21))]), .mk none (.append 23 9 1 16 (.t 20) (.t 22)), .mk none (.faddr 24 0 (.t 4)), .mk none (.store 1 (.t 24) (.t 23))]
def f33b5 : AQ := (.block 1 (.draw f33r4 [[], [0], [], [2], [1, 3, 2], [0, 1, 2, 3, 4], [5, 4, 4, 0, 1, 2, 3, 4]]))
def f33b6 : AQ := (.seq f33b5 (.region f33r3))
def f33b7 : AQ := (.cond (.t 16) .skip (.exit 0))
def f33r8 : LA := [.mk none (.mov 14 (.t 5)), .mk none (.mov 15 (.t 0)), .mk none (.bin 16 .lss (.t 14) (.t 15))]
def f33b9 : AQ := (.seq (.region f33r8) f33b7)
def f33b10 : AQ := (.seq f33b9 f33b6)
def f33l11 : AQ := .loop [0, 2, 4, 5] [2, 4, 23] f33b10
theorem zlq (P ts os Q) : awl P f33l11 Q ts os = awl P (.loop [0, 2, 4, 5] [2, 4, 23] f33b10) Q ts os := id rfl
def f33b12 : AQ := (.block 0 f33l11)
def f33r13 : LA := [.mk none (.mov 5 (.v (.k (.c (.int .i64 0)))))]
def f33b14 : AQ := (.seq (.region f33r13) f33b12)
def f33b15 : AQ := (.seq f33b14 f33b2)
def f33r16 : LA := [(AI.mk none (.build 13 [(.list 0 (some true) []), (.list 0 (some true) []), (.int .i64 0), (.bool false)] [(2, (1, (.v (.k (.c (.int .i64 (-1)))))))])), .mk none (.alloc 4 25 [(.list 0 (some true) []), (.list 0 (some true) []), (.int .i64 0), (.bool false)]), .mk none (.store 4 (.t 4) (.t 13))]
def f33b17 : AQ := (.seq (.region f33r16) f33b15)
def f33r18 : LA := [.mk none (.build 12 [(.list 0 (some true) []), (.list 0 (some true) []), (.int .i64 0), (.bool false)] []), .mk none (.store 4 (.t 2) (.t 12)), .mk none (.mov 3 (.v (.k (.c (.int .i64 1)))))]
def f33b19 : AQ := (.seq (.region f33r18) .ret)
def f33b20 : AQ := (.cond (.t 11) f33b19 .skip)
def f33r21 : LA := [.mk none (.mov 6 (.t 0)), .mk none (.bin 7 .lss (.t 6) (.v (.k (.c (.int .i64 1))))), .mk none (.mov 8 (.t 7)), .mk (some (8, false)) (.mov 9 (.t 0)), .mk (some (8, false)) (.bin 10 .gtr (.t 9) (.v (.k (.c (.int .i64 512))))), .mk none (.pick 11 (.t 8) (.v (.k (.c (.bool true)))) (.t 10))]
def f33b22 : AQ := (.seq (.region f33r21) f33b20)
def f33b23 : AQ := (.seq f33b22 f33b17)
def f33r24 : LA := [.mk none (.alloc 2 25 [(.list 0 (some true) []), (.list 0 (some true) []), (.int .i64 0), (.bool false)]), .mk none (.mov 3 (.v (.k (.c (.int .i64 0)))))]
def f33b25 : AQ := (.seq (.region f33r24) f33b23)
def f33 : AQ := f33b25
theorem hf33 : zG Tryz.prog 33 = some ⟨26, f33.erase, [(RX.cell 2 4 true), (RX.t 3)]⟩ := by kernel_rfl
theorem okf33 : f33.ok = true := by kernel_rfl
def f34r1 : LA := [.mk none (.load 32 4 true (.t 7)), .mk none (.call (some 33) 65 [(.t 32)]), .mk none (.extr 34 (.t 33) 0), .mk none (.extr 35 (.t 33) 1), .mk none (.store 4 (.t 2) (.t 34)), .mk none (.mov 3 (.t 35))]
def f34b2 : AQ := (.seq (.region f34r1) .ret)
def f34r3o0 : AI := .mk none (.load 27 4 true (.t 5))
def f34r3o1 : AI := .mk none (.call (some 28) 64 [(.v (.k (.c (.int .i64 0))))])
def f34r3o2 : AI := .mk none (.call (some 29) 63 [(.t 27), (.v (.k (.c (.int .i64 1)))), (.t 28)])
def f34r3o3 : AI := .mk none (.mov 26 (.t 29))
def f34r3o4 : AI := .mk none (.extr 30 (.t 26) 0)
def f34r3o5 : AI := .mk none (.extr 31 (.t 26) 1)
def f34r3o6 : AI := .mk none (.alloc 7 25 [(.list 0 (some true) []), (.list 0 (some true) []), (.int .i64 0), (.bool false)])
def f34r3o7 : AI := .mk none (.store 4 (.t 7) (.t 30))
def f34r3o8 : AI := .mk none (.mov 8 (.t 31))
def f34r3 : LA := [f34r3o0, f34r3o1, f34r3o2, f34r3o3, f34r3o4, f34r3o5, f34r3o6, f34r3o7, f34r3o8]
theorem zlr : xY f34r3 [[], [], [0, 1, 1], [2], [3], [3], [], [6, 4, 2, 0, 1, 2, 3, 4, 6], [5, 7, 0, 1, 2, 3, 4, 5, 6, 7]] = (.one f34r3o6 (.one f34r3o0 (.one f34r3o1 (.one f34r3o2 (.one f34r3o3 (.one f34r3o4 (.alt (.one f34r3o5 (.one f34r3o7 (.one f34r3o8 .done))) (.alt (.one f34r3o7 (.one f34r3o5 (.one f34r3o8 .done))) .top)))))))) := by kernel_rfl
def f34b4 : AQ := (.seq (.tree f34r3 [[], [], [0, 1, 1], [2], [3], [3], [], [6, 4, 2, 0, 1, 2, 3, 4, 6], [5, 7, 0, 1, 2, 3, 4, 5, 6, 7]]) (.keep [2, 7] [2, 7, 23, 29, 33, 24000, 24001, 24002, 30000, 30001, 30002, 34000, 34001, 34002] f34b2))
def f34r5o0 : AI := .mk none (.load 21 4 true (.t 1))
def f34r5o1 : AI := .mk none (.call (some 22) 64 [(.v (.k (.c (.int .i64 0))))])
def f34r5o2 : AI := .mk none (.call (some 23) 63 [(.t 21), (.v (.k (.c (.int .i64 0)))), (.t 22)])
def f34r5o3 : AI := .mk none (.mov 20 (.t 23))
def f34r5o4 : AI := .mk none (.extr 24 (.t 20) 0)
def f34r5o5 : AI := .mk none (.extr 25 (.t 20) 1)
def f34r5o6 : AI := .mk none (.alloc 5 25 [(.list 0 (some true) []), (.list 0 (some true) []), (.int .i64 0), (.bool false)])
def f34r5o7 : AI := .mk none (.store 4 (.t 5) (.t 24))
def f34r5o8 : AI := .mk none (.mov 6 (.t 25))
def f34r5 : LA := [f34r5o0, f34r5o1, f34r5o2, f34r5o3, f34r5o4, f34r5o5, f34r5o6, f34r5o7, f34r5o8]
theorem zls : xY f34r5 [[], [], [0, 1, 1], [2], [3], [3], [], [6, 4, 2, 0, 1, 2, 3, 4, 6], [5, 7, 0, 1, 2, 3, 4, 5, 6, 7]] = (.one f34r5o6 (.one f34r5o0 (.one f34r5o1 (.one f34r5o2 (.one f34r5o3 (.one f34r5o4 (.alt (.one f34r5o5 (.one f34r5o7 (.one f34r5o8 .done))) (.alt (.one f34r5o7 (.one f34r5o5 (.one f34r5o8 .done))) .top)))))))) := by kernel_rfl
def f34b6 : AQ := (.seq (.tree f34r5 [[], [], [0, 1, 1], [2], [3], [3], [], [6, 4, 2, 0, 1, 2, 3, 4, 6], [5, 7, 0, 1, 2, 3, 4, 5, 6, 7]]) (.keep [2, 5] [2, 5, 23, 29, 33, 24000, 24001, 24002, 30000, 30001, 30002, 34000, 34001, 34002] f34b4))
def f34r7 : LA := [.mk none (.build 19 [(.list 0 (some true) []), (.list 0 (some true) []), (.int .i64 0), (.bool false)] []), .mk none (.store 4 (.t 2) (.t 19)), .mk none (.mov 3 (.v (.k (.c (.int .i64 6)))))]
def f34b8 : AQ := (.seq (.region f34r7) .ret)
def f34b9 : AQ := (.cond (.t 18) f34b8 .skip)
def f34r10 : LA := [.mk none (.faddr 15 0 (.t 1)), .mk none (.load 16 1 false (.t 15)), .mk none (.len 17 (.t 16)), .mk none (.bin 18 .lss (.t 17) (.v (.k (.c (.int .i64 3)))))]
def f34b11 : AQ := (.seq (.region f34r10) f34b9)
def f34b12 : AQ := (.seq f34b11 f34b6)
def f34r13 : LA := [.mk none (.build 13 [(.list 0 (some true) []), (.list 0 (some true) []), (.int .i64 0), (.bool false)] []), .mk none (.mov 14 (.t 4)), .mk none (.store 4 (.t 2) (.t 13)), .mk none (.mov 3 (.t 14))]
def f34b14 : AQ := (.seq (.region f34r13) .ret)
def f34b15 : AQ := (.cond (.t 12) f34b14 .skip)
def f34r16 : LA := [.mk none (.mov 11 (.t 4)), .mk none (.bin 12 .neq (.t 11) (.v (.k (.c (.int .i64 0)))))]
def f34b17 : AQ := (.seq (.region f34r16) f34b15)
def f34b18 : AQ := (.seq f34b17 f34b12)
def f34r19 : LA := [.mk none (.load 9 4 true (.t 1)), .mk none (.call (some 10) 43 [(.t 9)]), .mk none (.mov 4 (.t 10))]
def f34b20 : AQ := (.seq (.region f34r19) f34b18)
def f34r21 : LA := [.mk none (.box 1 25 (.t 0)), .mk none (.alloc 2 25 [(.list 0 (some true) []), (.list 0 (some true) []), (.int .i64 0), (.bool false)]), .mk none (.mov 3 (.v (.k (.c (.int .i64 0)))))]
def f34b22 : AQ := (.seq (.region f34r21) f34b20)
def f34 : AQ := f34b22
theorem hf34 : zG Tryz.prog 34 = some ⟨36, f34.erase, [(RX.cell 2 4 true), (RX.t 3)]⟩ := by kernel_rfl
theorem okf34 : f34.ok = true := by kernel_rfl
def f35r1 : LA := [.mk none (.faddr 11 0 (.t 4)), .mk none (.load 12 1 false (.t 11)), .mk none (.mov 13 (.t 5)), .mk none (.mov 2 (.t 12)), .mk none (.mov 3 (.t 13))]
def f35b2 : AQ := (.seq (.region f35r1) .ret)
def f35r3 : LA := [.mk none (.load 7 4 true (.t 1)), .mk none (.call (some 8) 66 [(.t 7)]), .mk none (.mov 6 (.t 8)), .mk none (.extr 9 (.t 6) 0), .mk none (.extr 10 (.t 6) 1), .mk none (.alloc 4 72 [(.list 0 (some true) []), (.str []), (.int .i64 0)]), .mk none (.store 3 (.t 4) (.t 9)), .mk none (.mov 5 (.t 10))]
def f35b4 : AQ := (.seq (.region f35r3) f35b2)
def f35r5 : LA := [.mk none (.box 1 25 (.t 0)), .mk none (.nilL 2 9 1), .mk none (.mov 3 (.v (.k (.c (.int .i64 0)))))]
def f35b6 : AQ := (.seq (.region f35r5) f35b4)
def f35 : AQ := f35b6
theorem hf35 : zG Tryz.prog 35 = some ⟨14, f35.erase, [(RX.t 2), (RX.t 3)]⟩ := by kernel_rfl
theorem okf35 : f35.ok = true := by kernel_rfl
def f36r1 : LA := [.mk none (.mov 5 (.t 0)), .mk none (.mov 6 (.t 1)), .mk none (.call (some 7) 67 [(.t 5), (.t 6)]), .mk none (.bin 8 .geq (.t 7) (.v (.k (.c (.int .i64 0))))), .mk none (.mov 4 (.t 8))]
def f36b2 : AQ := (.seq (.region f36r1) .ret)
def f36r3 : LA := [.mk none (.mov 4 (.v (.k (.c (.bool false)))))]
def f36b4 : AQ := (.seq (.region f36r3) f36b2)
def f36 : AQ := f36b4
theorem hf36 : zG Tryz.prog 36 = some ⟨9, f36.erase, [(RX.t 4)]⟩ := by kernel_rfl
theorem okf36 : f36.ok = true := by kernel_rfl
def f39r1 : LA := [.mk none (.load 94 4 true (.t 2)), .mk none (.call (some 95) 61 [(.t 94)]), .mk none (.extr 96 (.t 95) 0), .mk none (.extr 97 (.t 95) 1), .mk none (.store 4 (.t 4) (.t 96)), .mk none (.mov 5 (.t 97))]
def f39b2 : AQ := (.seq (.region f39r1) .ret)
def f39r3o0 : AI := .mk none (.load 84 4 true (.t 2))
def f39r3o1 : AI := .mk none (.faddr 85 2 (.t 6))
def f39r3o2 : AI := .mk none (.load 86 1 false (.t 85))
def f39r3o3 : AI := .mk none (.bin 87 .sub (.v (.k (.c (.int .i64 1)))) (.t 86))
def f39r3o4 : AI := .mk none (.mov 88 (.t 8))
def f39r3o5 : AI := .mk none (.lenS 89 (.t 88))
def f39r3o6 : AI := .mk none (.call (some 90) 60 [(.t 89)])
def f39r3o7 : AI := .mk none (.call (some 91) 59 [(.t 84), (.t 87), (.t 90)])
def f39r3o8 : AI := .mk none (.mov 83 (.t 91))
def f39r3o9 : AI := .mk none (.extr 92 (.t 83) 0)
def f39r3o10 : AI := .mk none (.extr 93 (.t 83) 1)
def f39r3o11 : AI := .mk none (.store 4 (.t 2) (.t 92))
def f39r3 : LA := [f39r3o0, f39r3o1, f39r3o2, f39r3o3, f39r3o4, f39r3o5, f39r3o6, f39r3o7, f39r3o8, f39r3o9, f39r3o10, f39r3o11]
theorem zgV : xY f39r3 [[], [], [1], [2], [], [4], [5], [0, 3, 6, 6], [7], [8], [8], [9, 7, 0, 1, 2, 3, 4, 5, 6, 7, 8, 9]] = (.one f39r3o0 (.one f39r3o1 (.one f39r3o2 (.one f39r3o3 (.one f39r3o4 (.one f39r3o5 (.one f39r3o6 (.one f39r3o7 (.one f39r3o8 (.one f39r3o9 (.alt (.one f39r3o10 (.one f39r3o11 .done)) (.alt (.one f39r3o11 (.one f39r3o10 .done)) .top)))))))))))) := by kernel_rfl
def f39b4 : AQ := (.seq (.tree f39r3 [[], [], [1], [2], [], [4], [5], [0, 3, 6, 6], [7], [8], [8], [9, 7, 0, 1, 2, 3, 4, 5, 6, 7, 8, 9]]) (.keep [2, 4] [2, 4, 71, 76, 91, 95, 72000, 72001, 72002, 77000, 77001, 77002, 92000, 92001, 92002, 96000, 96001, 96002] f39b2))
def f39r5 : LA := [.mk none (.load 81 4 true (.t 2)), .mk none (.mov 82 (.t 7)), .mk none (.store 4 (.t 4) (.t 81)), .mk none (.mov 5 (.t 82))]
def f39b6 : AQ := (.seq (.region f39r5) .ret)
def f39b7 : AQ := (.cond (.t 80) f39b6 .skip)
def f39r8 : LA := [.mk none (.mov 79 (.t 7)), .mk none (.bin 80 .neq (.t 79) (.v (.k (.c (.int .i64 0)))))]
def f39b9 : AQ := (.seq (.region f39r8) f39b7)
def f39b10 : AQ := (.seq f39b9 f39b4)
def f39r11 : LA := [.mk none (.load 75 4 true (.t 2)), .mk none (.call (some 76) 61 [(.t 75)]), .mk none (.mov 74 (.t 76)), .mk none (.extr 77 (.t 74) 0), .mk none (.extr 78 (.t 74) 1), .mk none (.store 4 (.t 2) (.t 77)), .mk none (.mov 7 (.t 78))]
def f39b12 : AQ := (.seq (.region f39r11) f39b10)
def f39r13 : LA := [.mk none (.mov 55 (.t 9)), .mk none (.bin 56 .add (.t 55) (.v (.k (.c (.int .i64 1))))), .mk none (.mov 9 (.t 56))]
def f39r14o0 : AI := .mk none (.load 58 4 true (.t 2))
def f39r14o1 : AI := .mk none (.mov 59 (.t 9))
def f39r14o2 : AI := .mk none (.bin 60 .add (.v (.k (.c (.int .i64 2)))) (.t 59))
def f39r14o3 : AI := .mk none (.mov 61 (.t 8))
def f39r14o4 : AI := .mk none (.mov 62 (.t 9))
def f39r14o5 : AI := .mk none (.bin 63 .mul (.t 62) (.v (.k (.c (.int .i64 16)))))
def f39r14o6 : AI := .mk none (.mov 64 (.t 9))
def f39r14o7 : AI := .mk none (.bin 65 .add (.t 64) (.v (.k (.c (.int .i64 1)))))
def f39r14o8 : AI := .mk none (.bin 66 .mul (.t 65) (.v (.k (.c (.int .i64 16)))))
def f39r14o9 : AI := .mk none (.mov 67 (.t 8))
def f39r14o10 : AI := .mk none (.lenS 68 (.t 67))
def f39r14o11 : AI := .mk none (.minmax 69 false (.t 66) [(.t 68)])
def f39r14o12 : AI := .mk none (.slstr 70 (.t 61) (some (.t 63)) (some (.t 69)))
def f39r14o13 : AI := .mk none (.call (some 71) 59 [(.t 58), (.t 60), (.t 70)])
def f39r14o14 : AI := .mk none (.mov 57 (.t 71))
def f39r14o15 : AI := .mk none (.extr 72 (.t 57) 0)
def f39r14o16 : AI := .mk none (.extr 73 (.t 57) 1)
def f39r14o17 : AI := .mk none (.store 4 (.t 2) (.t 72))
def f39r14 : LA := [f39r14o0, f39r14o1, f39r14o2, f39r14o3, f39r14o4, f39r14o5, f39r14o6, f39r14o7, f39r14o8, f39r14o9, f39r14o10, f39r14o11, f39r14o12, f39r14o13, f39r14o14, f39r14o15, f39r14o16, f39r14o17]
theorem zlt : xY f39r14 [[], [], [1], [], [], [4], [], [6], [7], [], [9], [8, 10], [3, 5, 11], [0, 2, 12], [13], [14], [14], [15, 13, 0, 1, 2, 3, 4, 5, 6, 7, 8, 9, 10, 11, 12, 13, 14, 15]] = (.one f39r14o0 (.one f39r14o1 (.one f39r14o2 (.one f39r14o3 (.one f39r14o4 (.one f39r14o5 (.one f39r14o6 (.one f39r14o7 (.one f39r14o8 (.one f39r14o9 (.one f39r14o10 (.one f39r14o11 (.one f39r14o12 (.one f39r14o13 (.one f39r14o14 (.one f39r14o15 (.alt (.one f39r14o16 (.one f39r14o17 .done)) (.alt (.one f39r14o17 (.one f39r14o16 .done)) .top)))))))))))))))))) := by kernel_rfl
def f39b15 : AQ := (.block 2 (.tree f39r14 [[], [], [1], [], [], [4], [], [6], [7], [], [9], [8, 10], [3, 5, 11], [0, 2, 12], [13], [14], [14], [15, 13, 0, 1, 2, 3, 4, 5, 6, 7, 8, 9, 10, 11, 12, 13, 14, 15]]))
def f39b16 : AQ := (.seq f39b15 (.region f39r13))
def f39b17 : AQ := (.cond (.t 54) .skip (.exit 1))
def f39r18 : LA := [.mk none (.mov 50 (.t 9)), .mk none (.bin 51 .mul (.t 50) (.v (.k (.c (.int .i64 16))))), .mk none (.mov 52 (.t 8)), .mk none (.lenS 53 (.t 52)), .mk none (.bin 54 .lss (.t 51) (.t 53))]
def f39b19 : AQ := (.seq (.region f39r18) f39b17)
def f39b20 : AQ := (.seq f39b19 f39b16)
def f39l21 : AQ := .loop [2, 4, 6, 8, 9] [2, 4, 6, 12, 71, 76, 91, 95, 13000, 13001, 13002, 72000, 72001, 72002, 77000, 77001, 77002, 92000, 92001, 92002, 96000, 96001, 96002] f39b20
theorem zlu (P ts os Q) : awl P f39l21 Q ts os = awl P (.loop [2, 4, 6, 8, 9] [2, 4, 6, 12, 71, 76, 91, 95, 13000, 13001, 13002, 72000, 72001, 72002, 77000, 77001, 77002, 92000, 92001, 92002, 96000, 96001, 96002] f39b20) Q ts os := id rfl
def f39b22 : AQ := (.block 1 f39l21)
def f39r23 : LA := [.mk none (.faddr 46 1 (.t 6)), .mk none (.load 47 1 false (.t 46)), .mk none (.lenS 48 (.t 47)), .mk none (.bin 49 .quo (.t 48) (.v (.k (.c (.int .i64 16))))), .mk none (.mov 9 (.t 49))]
def f39b24 : AQ := (.seq (.region f39r23) f39b22)
def f39b25 : AQ := (.seq f39b24 f39b12)
def f39r26 : LA := [.mk none (.build 23 [(.list 0 (some true) []), (.list 0 (some true) []), (.int .i64 0), (.bool false)] []), .mk none (.mov 24 (.t 7)), .mk none (.store 4 (.t 4) (.t 23)), .mk none (.mov 5 (.t 24))]
def f39b27 : AQ := (.seq (.region f39r26) .ret)
def f39r28 : LA := [.mk none (.build 29 [(.list 0 (some true) []), (.list 0 (some true) []), (.int .i64 0), (.bool false)] []), .mk none (.store 4 (.t 4) (.t 29)), .mk none (.mov 5 (.v (.k (.c (.int .i64 1)))))]
def f39b29 : AQ := (.seq (.region f39r28) .ret)
def f39r30 : LA := [.mk none (.build 45 [(.list 0 (some true) []), (.list 0 (some true) []), (.int .i64 0), (.bool false)] []), .mk none (.store 4 (.t 4) (.t 45)), .mk none (.mov 5 (.v (.k (.c (.int .i64 6)))))]
def f39b31 : AQ := (.seq (.region f39r30) .ret)
def f39b32 : AQ := (.cond (.t 30) f39b31 .skip)
def f39r33 : LA := [.mk none (.faddr 31 0 (.t 6)), .mk none (.load 32 1 false (.t 31)), .mk none (.len 33 (.t 32)), .mk none (.bin 34 .eql (.t 33) (.v (.k (.c (.int .i64 500))))), .mk none (.mov 35 (.t 34)), .mk (some (35, false)) (.mov 36 (.t 8)), .mk (some (35, false)) (.lenS 37 (.t 36)), .mk (some (35, false)) (.faddr 38 0 (.t 2)), .mk (some (35, false)) (.load 39 1 false (.t 38)), .mk (some (35, false)) (.len 40 (.t 39)), .mk (some (35, false)) (.bin 41 .sub (.t 40) (.v (.k (.c (.int .i64 2))))), .mk (some (35, false)) (.bin 42 .mul (.t 41) (.v (.k (.c (.int .i64 16))))), .mk (some (35, false)) (.bin 43 .gtr (.t 37) (.t 42)), .mk none (.pick 44 (.t 35) (.v (.k (.c (.bool true)))) (.t 43)), .mk none (.mov 30 (.t 44))]
def f39b34 : AQ := (.seq (.region f39r33) f39b32)
def f39b35 : AQ := (.cond (.t 25) f39b29 f39b34)
def f39r36 : LA := [.mk none (.mov 26 (.t 1)), .mk none (.lenS 27 (.t 26)), .mk none (.bin 28 .gtr (.t 27) (.v (.k (.c (.int .i64 2000))))), .mk none (.mov 25 (.t 28))]
def f39b37 : AQ := (.seq (.region f39r36) f39b35)
def f39b38 : AQ := (.cond (.t 20) f39b27 f39b37)
def f39r39 : LA := [.mk none (.mov 21 (.t 7)), .mk none (.bin 22 .neq (.t 21) (.v (.k (.c (.int .i64 0))))), .mk none (.mov 20 (.t 22))]
def f39b40 : AQ := (.seq (.region f39r39) f39b38)
def f39b41 : AQ := (.block 0 f39b40)
def f39b42 : AQ := (.seq f39b41 f39b25)
def f39r43 : LA := [.mk none (.faddr 15 1 (.t 6)), .mk none (.load 16 1 false (.t 15)), .mk none (.mov 17 (.t 1)), .mk none (.call (some 18) 68 [(.t 17)]), .mk none (.bin 19 .add (.t 16) (.t 18)), .mk none (.mov 8 (.t 19))]
def f39b44 : AQ := (.seq (.draw f39r43 [[], [0], [], [2], [1, 3], [4, 3, 0, 1, 2, 3, 4]]) f39b42)
def f39r45 : LA := [.mk none (.load 11 4 true (.t 2)), .mk none (.call (some 12) 66 [(.t 11)]), .mk none (.mov 10 (.t 12)), .mk none (.extr 13 (.t 10) 0), .mk none (.extr 14 (.t 10) 1), .mk none (.alloc 6 72 [(.list 0 (some true) []), (.str []), (.int .i64 0)]), .mk none (.store 3 (.t 6) (.t 13)), .mk none (.mov 7 (.t 14))]
def f39b46 : AQ := (.seq (.region f39r45) f39b44)
def f39r47 : LA := [.mk none (.box 2 25 (.t 0)), .mk none (.alloc 4 25 [(.list 0 (some true) []), (.list 0 (some true) []), (.int .i64 0), (.bool false)]), .mk none (.mov 5 (.v (.k (.c (.int .i64 0)))))]
def f39b48 : AQ := (.seq (.region f39r47) f39b46)
def f39 : AQ := f39b48
theorem hf39 : zG Tryz.prog 39 = some ⟨98, f39.erase, [(RX.cell 4 4 true), (RX.t 5)]⟩ := by kernel_rfl
theorem okf39 : f39.ok = true := by kernel_rfl
def f40r1 : LA := [.mk none (.load 133 4 true (.t 12)), .mk none (.call (some 134) 65 [(.t 133)]), .mk none (.extr 135 (.t 134) 0), .mk none (.extr 136 (.t 134) 1), .mk none (.store 4 (.t 4) (.t 135)), .mk none (.mov 5 (.t 136))]
def f40b2 : AQ := (.seq (.region f40r1) .ret)
def f40r3o0 : AI := .mk none (.load 125 4 true (.t 12))
def f40r3o1 : AI := .mk none (.mov 126 (.t 11))
def f40r3o2 : AI := .mk none (.bin 127 .sub (.v (.k (.c (.int .i64 1)))) (.t 126))
def f40r3o3 : AI := .mk none (.mov 128 (.t 10))
def f40r3o4 : AI := .mk none (.call (some 129) 64 [(.t 128)])
def f40r3o5 : AI := .mk none (.call (some 130) 63 [(.t 125), (.t 127), (.t 129)])
def f40r3o6 : AI := .mk none (.mov 124 (.t 130))
def f40r3o7 : AI := .mk none (.extr 131 (.t 124) 0)
def f40r3o8 : AI := .mk none (.extr 132 (.t 124) 1)
def f40r3o9 : AI := .mk none (.store 4 (.t 12) (.t 131))
def f40r3 : LA := [f40r3o0, f40r3o1, f40r3o2, f40r3o3, f40r3o4, f40r3o5, f40r3o6, f40r3o7, f40r3o8, f40r3o9]
theorem zgW : xY f40r3 [[], [], [1], [], [3], [0, 2, 4, 4], [5], [6], [6], [7, 5, 0, 1, 2, 3, 4, 5, 6, 7]] = (.one f40r3o0 (.one f40r3o1 (.one f40r3o2 (.one f40r3o3 (.one f40r3o4 (.one f40r3o5 (.one f40r3o6 (.one f40r3o7 (.alt (.one f40r3o8 (.one f40r3o9 .done)) (.alt (.one f40r3o9 (.one f40r3o8 .done)) .top)))))))))) := by kernel_rfl
def f40b4 : AQ := (.seq (.tree f40r3 [[], [], [1], [], [3], [0, 2, 4, 4], [5], [6], [6], [7, 5, 0, 1, 2, 3, 4, 5, 6, 7]]) (.keep [4, 12] [4, 12, 108, 117, 130, 134, 109000, 109001, 109002, 118000, 118001, 118002, 131000, 131001, 131002, 135000, 135001, 135002] f40b2))
def f40r5 : LA := [.mk none (.load 122 4 true (.t 12)), .mk none (.mov 123 (.t 7)), .mk none (.store 4 (.t 4) (.t 122)), .mk none (.mov 5 (.t 123))]
def f40b6 : AQ := (.seq (.region f40r5) .ret)
def f40b7 : AQ := (.cond (.t 121) f40b6 .skip)
def f40r8 : LA := [.mk none (.mov 120 (.t 7)), .mk none (.bin 121 .neq (.t 120) (.v (.k (.c (.int .i64 0)))))]
def f40b9 : AQ := (.seq (.region f40r8) f40b7)
def f40b10 : AQ := (.seq f40b9 f40b4)
def f40r11 : LA := [.mk none (.load 116 4 true (.t 12)), .mk none (.call (some 117) 65 [(.t 116)]), .mk none (.mov 115 (.t 117)), .mk none (.extr 118 (.t 115) 0), .mk none (.extr 119 (.t 115) 1), .mk none (.store 4 (.t 12) (.t 118)), .mk none (.mov 7 (.t 119))]
def f40b12 : AQ := (.seq (.region f40r11) f40b10)
def f40r13 : LA := [.mk none (.mov 59 (.t 13)), .mk none (.bin 60 .add (.t 59) (.v (.k (.c (.int .i64 1))))), .mk none (.mov 13 (.t 60))]
def f40r14 : LA := [.mk none (.load 113 4 true (.t 12)), .mk none (.mov 114 (.t 7)), .mk none (.store 4 (.t 4) (.t 113)), .mk none (.mov 5 (.t 114))]
def f40b15 : AQ := (.seq (.region f40r14) .ret)
def f40b16 : AQ := (.cond (.t 112) f40b15 .skip)
def f40r17 : LA := [.mk none (.mov 111 (.t 7)), .mk none (.bin 112 .neq (.t 111) (.v (.k (.c (.int .i64 0)))))]
def f40b18 : AQ := (.seq (.region f40r17) f40b16)
def f40r19 : LA := [.mk none (.load 104 4 true (.t 12)), .mk none (.mov 105 (.t 13)), .mk none (.bin 106 .add (.v (.k (.c (.int .i64 2)))) (.t 105)), .mk none (.mov 107 (.t 14)), .mk none (.call (some 108) 63 [(.t 104), (.t 106), (.t 107)]), .mk none (.mov 103 (.t 108)), .mk none (.extr 109 (.t 103) 0), .mk none (.extr 110 (.t 103) 1), .mk none (.store 4 (.t 12) (.t 109)), .mk none (.mov 7 (.t 110))]
def f40b20 : AQ := (.seq (.region f40r19) f40b18)
def f40r21 : LA := [.mk none (.mov 73 (.t 15)), .mk none (.bin 74 .add (.t 73) (.v (.k (.c (.int .i64 1))))), .mk none (.mov 15 (.t 74))]
def f40r22 : LA := [.mk none (.mov 78 (.t 14)), .mk none (.faddr 79 0 (.t 2)), .mk none (.load 80 1 false (.t 79)), .mk none (.mov 81 (.t 13)), .mk none (.bin 82 .add (.v (.k (.c (.int .i64 2)))) (.t 81)), .mk none (.iaddr 83 1 (.t 80) (.t 82)), .mk none (.load 84 1 false (.t 83)), .mk none (.mov 85 (.t 15)), .mk none (.bin 86 .rem (.t 85) (.v (.k (.c (.int .i64 16))))), .mk none (.mov 87 (.t 15)), .mk none (.bin 88 .rem (.t 87) (.v (.k (.c (.int .i64 16))))), .mk none (.bin 89 .add (.t 88) (.v (.k (.c (.int .i64 1))))), .mk none (.slstr 90 (.t 84) (some (.t 86)) (some (.t 89))), .mk none (.bin 91 .add (.t 78) (.t 90)), .mk none (.mov 14 (.t 91))]
def f40r23 : LA := [.mk none (.mov 92 (.t 14)), .mk none (.mov 93 (.t 9)), .mk none (.mov 94 (.t 15)), .mk none (.mov 95 (.t 8)), .mk none (.bin 96 .sub (.t 94) (.t 95)), .mk none (.mov 97 (.t 15)), .mk none (.mov 98 (.t 8)), .mk none (.bin 99 .sub (.t 97) (.t 98)), .mk none (.bin 100 .add (.t 99) (.v (.k (.c (.int .i64 1))))), .mk none (.slstr 101 (.t 93) (some (.t 96)) (some (.t 100))), .mk none (.bin 102 .add (.t 92) (.t 101)), .mk none (.mov 14 (.t 102))]
def f40b24 : AQ := (.cond (.t 77) (.region f40r22) (.region f40r23))
def f40r25 : LA := [.mk none (.mov 75 (.t 15)), .mk none (.mov 76 (.t 8)), .mk none (.bin 77 .lss (.t 75) (.t 76))]
def f40b26 : AQ := (.seq (.region f40r25) f40b24)
def f40b27 : AQ := (.block 3 f40b26)
def f40b28 : AQ := (.seq f40b27 (.region f40r21))
def f40b29 : AQ := (.cond (.t 72) .skip (.exit 2))
def f40r30 : LA := [.mk none (.mov 63 (.t 15)), .mk none (.mov 64 (.t 13)), .mk none (.bin 65 .mul (.v (.k (.c (.int .i64 16)))) (.t 64)), .mk none (.bin 66 .add (.t 65) (.v (.k (.c (.int .i64 16))))), .mk none (.bin 67 .lss (.t 63) (.t 66)), .mk none (.mov 68 (.t 67)), .mk (some (68, true)) (.mov 69 (.t 15)), .mk (some (68, true)) (.mov 70 (.t 10)), .mk (some (68, true)) (.bin 71 .lss (.t 69) (.t 70)), .mk none (.pick 72 (.t 68) (.t 71) (.v (.k (.c (.bool false)))))]
def f40b31 : AQ := (.seq (.region f40r30) f40b29)
def f40b32 : AQ := (.seq f40b31 f40b28)
def f40l33 : AQ := .loop [2, 4, 8, 9, 10, 11, 12, 13, 14, 15] [2, 4, 12, 108, 117, 130, 134, 109000, 109001, 109002, 118000, 118001, 118002, 131000, 131001, 131002, 135000, 135001, 135002] f40b32
theorem zlv (P ts os Q) : awl P f40l33 Q ts os = awl P (.loop [2, 4, 8, 9, 10, 11, 12, 13, 14, 15] [2, 4, 12, 108, 117, 130, 134, 109000, 109001, 109002, 118000, 118001, 118002, 131000, 131001, 131002, 135000, 135001, 135002] f40b32) Q ts os := id rfl
def f40b34 : AQ := (.block 2 f40l33)
def f40r35 : LA := [.mk none (.mov 61 (.t 13)), .mk none (.bin 62 .mul (.v (.k (.c (.int .i64 16)))) (.t 61)), .mk none (.mov 15 (.t 62))]
def f40b36 : AQ := (.seq (.region f40r35) f40b34)
def f40b37 : AQ := (.seq f40b36 f40b20)
def f40r38 : LA := [.mk none (.mov 14 (.v (.k (.c (.str [])))))]
def f40b39 : AQ := (.seq (.region f40r38) f40b37)
def f40b40 : AQ := (.block 1 f40b39)
def f40b41 : AQ := (.seq f40b40 (.region f40r13))
def f40b42 : AQ := (.cond (.t 58) .skip (.exit 0))
def f40r43 : LA := [.mk none (.mov 55 (.t 13)), .mk none (.bin 56 .mul (.v (.k (.c (.int .i64 16)))) (.t 55)), .mk none (.mov 57 (.t 10)), .mk none (.bin 58 .lss (.t 56) (.t 57))]
def f40b44 : AQ := (.seq (.region f40r43) f40b42)
def f40b45 : AQ := (.seq f40b44 f40b41)
def f40l46 : AQ := .loop [2, 4, 8, 9, 10, 11, 12, 13] [2, 4, 12, 108, 117, 130, 134, 109000, 109001, 109002, 118000, 118001, 118002, 131000, 131001, 131002, 135000, 135001, 135002] f40b45
theorem zlw (P ts os Q) : awl P f40l46 Q ts os = awl P (.loop [2, 4, 8, 9, 10, 11, 12, 13] [2, 4, 12, 108, 117, 130, 134, 109000, 109001, 109002, 118000, 118001, 118002, 131000, 131001, 131002, 135000, 135001, 135002] f40b45) Q ts os := id rfl
def f40b47 : AQ := (.block 0 f40l46)
def f40r48 : LA := [.mk none (.mov 53 (.t 8)), .mk none (.bin 54 .quo (.t 53) (.v (.k (.c (.int .i64 16))))), .mk none (.mov 13 (.t 54))]
def f40b49 : AQ := (.seq (.region f40r48) f40b47)
def f40b50 : AQ := (.seq f40b49 f40b12)
def f40r51 : LA := [.mk none (.load 52 4 true (.t 2)), .mk none (.alloc 12 25 [(.list 0 (some true) []), (.list 0 (some true) []), (.int .i64 0), (.bool false)]), .mk none (.store 4 (.t 12) (.t 52))]
def f40b52 : AQ := (.seq (.region f40r51) f40b50)
def f40r53 : LA := [.mk none (.load 50 4 true (.t 2)), .mk none (.call (some 51) 44 [(.t 50)]), .mk none (.mov 11 (.t 51))]
def f40b54 : AQ := (.seq (.region f40r53) f40b52)
def f40r55 : LA := [.mk none (.build 49 [(.list 0 (some true) []), (.list 0 (some true) []), (.int .i64 0), (.bool false)] []), .mk none (.store 4 (.t 4) (.t 49)), .mk none (.mov 5 (.v (.k (.c (.int .i64 6)))))]
def f40b56 : AQ := (.seq (.region f40r55) .ret)
def f40b57 : AQ := (.cond (.t 48) f40b56 .skip)
def f40r58 : LA := [.mk none (.mov 37 (.t 6)), .mk none (.len 38 (.t 37)), .mk none (.bin 39 .geq (.t 38) (.v (.k (.c (.int .i64 500))))), .mk none (.mov 40 (.t 39)), .mk (some (40, false)) (.mov 41 (.t 10)), .mk (some (40, false)) (.faddr 42 0 (.t 2)), .mk (some (40, false)) (.load 43 1 false (.t 42)), .mk (some (40, false)) (.len 44 (.t 43)), .mk (some (40, false)) (.bin 45 .sub (.t 44) (.v (.k (.c (.int .i64 2))))), .mk (some (40, false)) (.bin 46 .mul (.v (.k (.c (.int .i64 16)))) (.t 45)), .mk (some (40, false)) (.bin 47 .gtr (.t 41) (.t 46)), .mk none (.pick 48 (.t 40) (.v (.k (.c (.bool true)))) (.t 47))]
def f40b59 : AQ := (.seq (.region f40r58) f40b57)
def f40b60 : AQ := (.seq f40b59 f40b54)
def f40r61 : LA := [.mk none (.mov 33 (.t 8)), .mk none (.mov 34 (.t 9)), .mk none (.lenS 35 (.t 34)), .mk none (.bin 36 .add (.t 33) (.t 35)), .mk none (.mov 10 (.t 36))]
def f40b62 : AQ := (.seq (.region f40r61) f40b60)
def f40r63 : LA := [.mk none (.mov 31 (.t 1)), .mk none (.call (some 32) 70 [(.t 31)]), .mk none (.mov 9 (.t 32))]
def f40b64 : AQ := (.seq (.region f40r63) f40b62)
def f40r65 : LA := [.mk none (.mov 29 (.t 6)), .mk none (.call (some 30) 69 [(.t 29)]), .mk none (.mov 8 (.t 30))]
def f40b66 : AQ := (.seq (.region f40r65) f40b64)
def f40r67 : LA := [.mk none (.build 28 [(.list 0 (some true) []), (.list 0 (some true) []), (.int .i64 0), (.bool false)] []), .mk none (.store 4 (.t 4) (.t 28)), .mk none (.mov 5 (.v (.k (.c (.int .i64 1)))))]
def f40b68 : AQ := (.seq (.region f40r67) .ret)
def f40b69 : AQ := (.cond (.t 27) f40b68 .skip)
def f40r70 : LA := [.mk none (.mov 25 (.t 1)), .mk none (.lenS 26 (.t 25)), .mk none (.bin 27 .gtr (.t 26) (.v (.k (.c (.int .i64 2000)))))]
def f40b71 : AQ := (.seq (.region f40r70) f40b69)
def f40b72 : AQ := (.seq f40b71 f40b66)
def f40r73 : LA := [.mk none (.build 23 [(.list 0 (some true) []), (.list 0 (some true) []), (.int .i64 0), (.bool false)] []), .mk none (.mov 24 (.t 7)), .mk none (.store 4 (.t 4) (.t 23)), .mk none (.mov 5 (.t 24))]
def f40b74 : AQ := (.seq (.region f40r73) .ret)
def f40b75 : AQ := (.cond (.t 22) f40b74 .skip)
def f40r76 : LA := [.mk none (.mov 21 (.t 7)), .mk none (.bin 22 .neq (.t 21) (.v (.k (.c (.int .i64 0)))))]
def f40b77 : AQ := (.seq (.region f40r76) f40b75)
def f40b78 : AQ := (.seq f40b77 f40b72)
def f40r79 : LA := [.mk none (.load 17 4 true (.t 2)), .mk none (.call (some 18) 19 [(.t 17)]), .mk none (.mov 16 (.t 18)), .mk none (.extr 19 (.t 16) 0), .mk none (.extr 20 (.t 16) 1), .mk none (.mov 6 (.t 19)), .mk none (.mov 7 (.t 20))]
def f40b80 : AQ := (.seq (.region f40r79) f40b78)
def f40r81 : LA := [.mk none (.box 2 25 (.t 0)), .mk none (.alloc 4 25 [(.list 0 (some true) []), (.list 0 (some true) []), (.int .i64 0), (.bool false)]), .mk none (.mov 5 (.v (.k (.c (.int .i64 0)))))]
def f40b82 : AQ := (.seq (.region f40r81) f40b80)
def f40 : AQ := f40b82
theorem hf40 : zG Tryz.prog 40 = some ⟨137, f40.erase, [(RX.cell 4 4 true), (RX.t 5)]⟩ := by kernel_rfl
theorem okf40 : f40.ok = true := by kernel_rfl
def f41r1 : LA := [.mk none (.load 15 4 true (.t 1)), .mk none (.store 4 (.t 2) (.t 15)), .mk none (.mov 3 (.v (.k (.c (.int .i64 0)))))]
def f41b2 : AQ := (.seq (.region f41r1) .ret)
def f41r3 : LA := [.mk none (.faddr 14 3 (.t 1)), .mk none (.store 1 (.t 14) (.v (.k (.c (.bool false)))))]
def f41b4 : AQ := (.seq (.region f41r3) f41b2)
def f41r5 : LA := [.mk none (.load 12 4 true (.t 1)), .mk none (.call (some 13) 55 [(.t 12)]), .mk none (.store 4 (.t 1) (.t 13))]
def f41b6 : AQ := (.seq (.region f41r5) f41b4)
def f41r7 : LA := [.mk none (.build 11 [(.list 0 (some true) []), (.list 0 (some true) []), (.int .i64 0), (.bool false)] []), .mk none (.store 4 (.t 2) (.t 11)), .mk none (.mov 3 (.v (.k (.c (.int .i64 7)))))]
def f41b8 : AQ := (.seq (.region f41r7) .ret)
def f41b9 : AQ := (.cond (.t 10) f41b8 .skip)
def f41r10 : LA := [.mk none (.faddr 8 3 (.t 1)), .mk none (.load 9 1 false (.t 8)), .mk none (.un 10 .not (.t 9))]
def f41b11 : AQ := (.seq (.region f41r10) f41b9)
def f41b12 : AQ := (.seq f41b11 f41b6)
def f41r13 : LA := [.mk none (.build 7 [(.list 0 (some true) []), (.list 0 (some true) []), (.int .i64 0), (.bool false)] []), .mk none (.store 4 (.t 2) (.t 7)), .mk none (.mov 3 (.v (.k (.c (.int .i64 1)))))]
def f41b14 : AQ := (.seq (.region f41r13) .ret)
def f41b15 : AQ := (.cond (.t 6) f41b14 .skip)
def f41r16 : LA := [.mk none (.load 4 4 true (.t 1)), .mk none (.call (some 5) 71 [(.t 4)]), .mk none (.un 6 .not (.t 5))]
def f41b17 : AQ := (.seq (.region f41r16) f41b15)
def f41b18 : AQ := (.seq f41b17 f41b12)
def f41r19 : LA := [.mk none (.box 1 25 (.t 0)), .mk none (.alloc 2 25 [(.list 0 (some true) []), (.list 0 (some true) []), (.int .i64 0), (.bool false)]), .mk none (.mov 3 (.v (.k (.c (.int .i64 0)))))]
def f41b20 : AQ := (.seq (.region f41r19) f41b18)
def f41 : AQ := f41b20
theorem hf41 : zG Tryz.prog 41 = some ⟨16, f41.erase, [(RX.cell 2 4 true), (RX.t 3)]⟩ := by kernel_rfl
theorem okf41 : f41.ok = true := by kernel_rfl
def f42r1 : LA := [.mk none (.mov 2 (.v (.k (.c (.int .i64 0)))))]
def f42b2 : AQ := (.seq (.region f42r1) .ret)
def f42r3 : LA := [.mk none (.mov 2 (.v (.k (.c (.int .i64 1)))))]
def f42b4 : AQ := (.seq (.region f42r3) .ret)
def f42b5 : AQ := (.cond (.t 87) f42b4 .skip)
def f42r6 : LA := [.mk none (.faddr 75 3 (.t 1)), .mk none (.load 76 1 false (.t 75)), .mk none (.mov 77 (.t 76)), .mk (some (77, true)) (.faddr 78 1 (.t 1)), .mk (some (77, true)) (.load 79 1 false (.t 78)), .mk (some (77, true)) (.len 80 (.t 79)), .mk (some (77, true)) (.bin 81 .gtr (.t 80) (.v (.k (.c (.int .i64 0))))), .mk (some (77, true)) (.mov 82 (.t 81)), .mk (some (82, false)) (.faddr 83 2 (.t 1)), .mk (some (82, false)) (.load 84 1 false (.t 83)), .mk (some (82, false)) (.bin 85 .neq (.t 84) (.v (.k (.c (.int .i64 (-1)))))), .mk (some (77, true)) (.pick 86 (.t 82) (.v (.k (.c (.bool true)))) (.t 85)), .mk none (.pick 87 (.t 77) (.t 86) (.v (.k (.c (.bool false)))))]
def f42b7 : AQ := (.seq (.region f42r6) f42b5)
def f42b8 : AQ := (.seq f42b7 f42b2)
def f42r9 : LA := [.mk none (.mov 51 (.t 4)), .mk none (.bin 52 .add (.t 51) (.v (.k (.c (.int .i64 1))))), .mk none (.mov 4 (.t 52))]
def f42r10 : LA := [.mk none (.mov 2 (.v (.k (.c (.int .i64 1)))))]
def f42b11 : AQ := (.seq (.region f42r10) .ret)
def f42b12 : AQ := (.cond (.t 74) f42b11 .skip)
def f42r13 : LA := [.mk none (.faddr 58 0 (.t 5)), .mk none (.load 59 1 false (.t 58)), .mk none (.bin 60 .lss (.t 59) (.v (.k (.c (.int .i64 0))))), .mk none (.mov 61 (.t 60)), .mk (some (61, false)) (.faddr 62 0 (.t 5)), .mk (some (61, false)) (.load 63 1 false (.t 62)), .mk (some (61, false)) (.faddr 64 0 (.t 1)), .mk (some (61, false)) (.load 65 1 false (.t 64)), .mk (some (61, false)) (.len 66 (.t 65)), .mk (some (61, false)) (.bin 67 .geq (.t 63) (.t 66)), .mk none (.pick 68 (.t 61) (.v (.k (.c (.bool true)))) (.t 67)), .mk none (.mov 69 (.t 68)), .mk (some (69, false)) (.faddr 70 1 (.t 5)), .mk (some (69, false)) (.load 71 1 false (.t 70)), .mk (some (69, false)) (.lenS 72 (.t 71)), .mk (some (69, false)) (.bin 73 .neq (.t 72) (.v (.k (.c (.int .i64 16))))), .mk none (.pick 74 (.t 69) (.v (.k (.c (.bool true)))) (.t 73))]
def f42b14 : AQ := (.seq (.region f42r13) f42b12)
def f42r15 : LA := [.mk none (.faddr 53 1 (.t 1)), .mk none (.load 54 1 false (.t 53)), .mk none (.mov 55 (.t 4)), .mk none (.iaddr 56 2 (.t 54) (.t 55)), .mk none (.load 57 2 true (.t 56)), .mk none (.alloc 5 52 [(.int .i64 0), (.str [])]), .mk none (.store 2 (.t 5) (.t 57))]
def f42b16 : AQ := (.seq (.region f42r15) f42b14)
def f42b17 : AQ := (.block 3 f42b16)
def f42b18 : AQ := (.seq f42b17 (.region f42r9))
def f42b19 : AQ := (.cond (.t 50) .skip (.exit 2))
def f42r20 : LA := [.mk none (.mov 46 (.t 4)), .mk none (.faddr 47 1 (.t 1)), .mk none (.load 48 1 false (.t 47)), .mk none (.len 49 (.t 48)), .mk none (.bin 50 .lss (.t 46) (.t 49))]
def f42b21 : AQ := (.seq (.region f42r20) f42b19)
def f42b22 : AQ := (.seq f42b21 f42b18)
def f42l23 : AQ := .loop [1, 4] [1] f42b22
theorem zgX (P ts os Q) : awl P f42l23 Q ts os = awl P (.loop [1, 4] [1] f42b22) Q ts os := id rfl
def f42b24 : AQ := (.block 2 f42l23)
def f42r25 : LA := [.mk none (.mov 4 (.v (.k (.c (.int .i64 0)))))]
def f42b26 : AQ := (.seq (.region f42r25) f42b24)
def f42b27 : AQ := (.seq f42b26 f42b8)
def f42r28 : LA := [.mk none (.mov 37 (.t 3)), .mk none (.bin 38 .add (.t 37) (.v (.k (.c (.int .i64 1))))), .mk none (.mov 3 (.t 38))]
def f42r29 : LA := [.mk none (.mov 2 (.v (.k (.c (.int .i64 1)))))]
def f42b30 : AQ := (.seq (.region f42r29) .ret)
def f42b31 : AQ := (.cond (.t 45) f42b30 .skip)
def f42r32 : LA := [.mk none (.faddr 39 0 (.t 1)), .mk none (.load 40 1 false (.t 39)), .mk none (.mov 41 (.t 3)), .mk none (.iaddr 42 1 (.t 40) (.t 41)), .mk none (.load 43 1 false (.t 42)), .mk none (.lenS 44 (.t 43)), .mk none (.bin 45 .neq (.t 44) (.v (.k (.c (.int .i64 16)))))]
def f42b33 : AQ := (.seq (.region f42r32) f42b31)
def f42b34 : AQ := (.block 1 f42b33)
def f42b35 : AQ := (.seq f42b34 (.region f42r28))
def f42b36 : AQ := (.cond (.t 36) .skip (.exit 0))
def f42r37 : LA := [.mk none (.mov 32 (.t 3)), .mk none (.faddr 33 0 (.t 1)), .mk none (.load 34 1 false (.t 33)), .mk none (.len 35 (.t 34)), .mk none (.bin 36 .lss (.t 32) (.t 35))]
def f42b38 : AQ := (.seq (.region f42r37) f42b36)
def f42b39 : AQ := (.seq f42b38 f42b35)
def f42l40 : AQ := .loop [1, 3] [1] f42b39
theorem zgY (P ts os Q) : awl P f42l40 Q ts os = awl P (.loop [1, 3] [1] f42b39) Q ts os := id rfl
def f42b41 : AQ := (.block 0 f42l40)
def f42r42 : LA := [.mk none (.mov 3 (.v (.k (.c (.int .i64 0)))))]
def f42b43 : AQ := (.seq (.region f42r42) f42b41)
def f42b44 : AQ := (.seq f42b43 f42b27)
def f42r45 : LA := [.mk none (.mov 2 (.v (.k (.c (.int .i64 1)))))]
def f42b46 : AQ := (.seq (.region f42r45) .ret)
def f42b47 : AQ := (.cond (.t 31) f42b46 .skip)
def f42r48 : LA := [.mk none (.faddr 6 0 (.t 1)), .mk none (.load 7 1 false (.t 6)), .mk none (.len 8 (.t 7)), .mk none (.bin 9 .lss (.t 8) (.v (.k (.c (.int .i64 1))))), .mk none (.mov 10 (.t 9)), .mk (some (10, false)) (.faddr 11 0 (.t 1)), .mk (some (10, false)) (.load 12 1 false (.t 11)), .mk (some (10, false)) (.len 13 (.t 12)), .mk (some (10, false)) (.bin 14 .gtr (.t 13) (.v (.k (.c (.int .i64 512))))), .mk none (.pick 15 (.t 10) (.v (.k (.c (.bool true)))) (.t 14)), .mk none (.mov 16 (.t 15)), .mk (some (16, false)) (.faddr 17 1 (.t 1)), .mk (some (16, false)) (.load 18 1 false (.t 17)), .mk (some (16, false)) (.len 19 (.t 18)), .mk (some (16, false)) (.bin 20 .gtr (.t 19) (.v (.k (.c (.int .i64 512))))), .mk none (.pick 21 (.t 16) (.v (.k (.c (.bool true)))) (.t 20)), .mk none (.mov 22 (.t 21)), .mk (some (22, false)) (.faddr 23 2 (.t 1)), .mk (some (22, false)) (.load 24 1 false (.t 23)), .mk (some (22, false)) (.bin 25 .lss (.t 24) (.v (.k (.c (.int .i64 (-1)))))), .mk none (.pick 26 (.t 22) (.v (.k (.c (.bool true)))) (.t 25)), .mk none (.mov 27 (.t 26)), .mk (some (27, false)) (.faddr 28 2 (.t 1)), .mk (some (27, false)) (.load 29 1 false (.t 28)), .mk (some (27, false)) (.bin 30 .gtr (.t 29) (.v (.k (.c (.int .i64 512))))), .mk none (.pick 31 (.t 27) (.v (.k (.c (.bool true)))) (.t 30))]
def f42b49 : AQ := (.seq (.region f42r48) f42b47)
def f42b50 : AQ := (.seq f42b49 f42b44)
def f42r51 : LA := [.mk none (.box 1 25 (.t 0)), .mk none (.mov 2 (.v (.k (.c (.int .i64 0)))))]
def f42b52 : AQ := (.seq (.region f42r51) f42b50)
def f42 : AQ := f42b52
theorem hf42 : zG Tryz.prog 42 = some ⟨88, f42.erase, [(RX.t 2)]⟩ := by kernel_rfl
theorem okf42 : f42.ok = true := by kernel_rfl
def f43r1 : LA := [.mk none (.mov 2 (.v (.k (.c (.int .i64 0)))))]
def f43b2 : AQ := (.seq (.region f43r1) .ret)
def f43r3 : LA := [.mk none (.mov 2 (.v (.k (.c (.int .i64 7)))))]
def f43b4 : AQ := (.seq (.region f43r3) .ret)
def f43b5 : AQ := (.cond (.t 14) f43b4 .skip)
def f43r6 : LA := [.mk none (.faddr 11 1 (.t 1)), .mk none (.load 12 1 false (.t 11)), .mk none (.len 13 (.t 12)), .mk none (.bin 14 .gtr (.t 13) (.v (.k (.c (.int .i64 0)))))]
def f43b7 : AQ := (.seq (.region f43r6) f43b5)
def f43b8 : AQ := (.seq f43b7 f43b2)
def f43r9 : LA := [.mk none (.mov 2 (.v (.k (.c (.int .i64 8)))))]
def f43b10 : AQ := (.seq (.region f43r9) .ret)
def f43b11 : AQ := (.cond (.t 10) f43b10 .skip)
def f43r12 : LA := [.mk none (.faddr 9 3 (.t 1)), .mk none (.load 10 1 false (.t 9))]
def f43b13 : AQ := (.seq (.region f43r12) f43b11)
def f43b14 : AQ := (.seq f43b13 f43b8)
def f43r15 : LA := [.mk none (.mov 8 (.t 3)), .mk none (.mov 2 (.t 8))]
def f43b16 : AQ := (.seq (.region f43r15) .ret)
def f43b17 : AQ := (.cond (.t 7) f43b16 .skip)
def f43r18 : LA := [.mk none (.mov 6 (.t 3)), .mk none (.bin 7 .neq (.t 6) (.v (.k (.c (.int .i64 0)))))]
def f43b19 : AQ := (.seq (.region f43r18) f43b17)
def f43b20 : AQ := (.seq f43b19 f43b14)
def f43r21 : LA := [.mk none (.load 4 4 true (.t 1)), .mk none (.call (some 5) 42 [(.t 4)]), .mk none (.mov 3 (.t 5))]
def f43b22 : AQ := (.seq (.region f43r21) f43b20)
def f43r23 : LA := [.mk none (.box 1 25 (.t 0)), .mk none (.mov 2 (.v (.k (.c (.int .i64 0)))))]
def f43b24 : AQ := (.seq (.region f43r23) f43b22)
def f43 : AQ := f43b24
theorem hf43 : zG Tryz.prog 43 = some ⟨15, f43.erase, [(RX.t 2)]⟩ := by kernel_rfl
theorem okf43 : f43.ok = true := by kernel_rfl
def f44r1 : LA := [.mk none (.mov 2 (.v (.k (.c (.int .i64 0)))))]
def f44b2 : AQ := (.seq (.region f44r1) .ret)
def f44r3 : LA := [.mk none (.mov 2 (.v (.k (.c (.int .i64 1)))))]
def f44b4 : AQ := (.seq (.region f44r3) .ret)
def f44b5 : AQ := (.cond (.t 23) f44b4 .skip)
def f44r6 : LA := [.mk none (.mov 21 (.t 4)), .mk none (.mov 22 (.t 3)), .mk none (.bin 23 .gtr (.t 21) (.t 22))]
def f44b7 : AQ := (.seq (.region f44r6) f44b5)
def f44b8 : AQ := (.seq f44b7 f44b2)
def f44r9 : LA := [.mk none (.mov 2 (.v (.k (.c (.int .i64 (-1))))))]
def f44b10 : AQ := (.seq (.region f44r9) .ret)
def f44b11 : AQ := (.cond (.t 20) f44b10 .skip)
def f44r12 : LA := [.mk none (.mov 15 (.t 3)), .mk none (.bin 16 .lss (.t 15) (.v (.k (.c (.int .i64 0))))), .mk none (.mov 17 (.t 16)), .mk (some (17, true)) (.mov 18 (.t 4)), .mk (some (17, true)) (.bin 19 .lss (.t 18) (.v (.k (.c (.int .i64 0))))), .mk none (.pick 20 (.t 17) (.t 19) (.v (.k (.c (.bool false)))))]
def f44b13 : AQ := (.seq (.region f44r12) f44b11)
def f44b14 : AQ := (.seq f44b13 f44b8)
def f44r15 : LA := [.mk none (.faddr 10 0 (.t 1)), .mk none (.load 11 1 false (.t 10)), .mk none (.iaddr 12 1 (.t 11) (.v (.k (.c (.int .i64 1))))), .mk none (.load 13 1 false (.t 12)), .mk none (.call (some 14) 46 [(.t 13)]), .mk none (.mov 4 (.t 14))]
def f44b16 : AQ := (.seq (.region f44r15) f44b14)
def f44r17 : LA := [.mk none (.faddr 5 0 (.t 1)), .mk none (.load 6 1 false (.t 5)), .mk none (.iaddr 7 1 (.t 6) (.v (.k (.c (.int .i64 0))))), .mk none (.load 8 1 false (.t 7)), .mk none (.call (some 9) 46 [(.t 8)]), .mk none (.mov 3 (.t 9))]
def f44b18 : AQ := (.seq (.region f44r17) f44b16)
def f44r19 : LA := [.mk none (.box 1 25 (.t 0)), .mk none (.mov 2 (.v (.k (.c (.int .i64 0)))))]
def f44b20 : AQ := (.seq (.region f44r19) f44b18)
def f44 : AQ := f44b20
theorem hf44 : zG Tryz.prog 44 = some ⟨24, f44.erase, [(RX.t 2)]⟩ := by kernel_rfl
theorem okf44 : f44.ok = true := by kernel_rfl
def f45r1 : LA := [.mk none (.mov 19 (.t 3)), .mk none (.mov 2 (.t 19))]
def f45b2 : AQ := (.seq (.region f45r1) .ret)
def f45r3 : LA := [.mk none (.mov 10 (.t 4)), .mk none (.bin 11 .add (.t 10) (.v (.k (.c (.int .i64 1))))), .mk none (.mov 4 (.t 11))]
def f45r4 : LA := [.mk none (.mov 12 (.t 3)), .mk none (.faddr 13 0 (.t 1)), .mk none (.load 14 1 false (.t 13)), .mk none (.mov 15 (.t 4)), .mk none (.iaddr 16 1 (.t 14) (.t 15)), .mk none (.load 17 1 false (.t 16)), .mk none (.bin 18 .add (.t 12) (.t 17)), .mk none (.mov 3 (.t 18))]
def f45b5 : AQ := (.block 1 (.region f45r4))
def f45b6 : AQ := (.seq f45b5 (.region f45r3))
def f45b7 : AQ := (.cond (.t 9) .skip (.exit 0))
def f45r8 : LA := [.mk none (.mov 5 (.t 4)), .mk none (.faddr 6 0 (.t 1)), .mk none (.load 7 1 false (.t 6)), .mk none (.len 8 (.t 7)), .mk none (.bin 9 .lss (.t 5) (.t 8))]
def f45b9 : AQ := (.seq (.region f45r8) f45b7)
def f45b10 : AQ := (.seq f45b9 f45b6)
def f45l11 : AQ := .loop [1, 3, 4] [1] f45b10
theorem zlx (P ts os Q) : awl P f45l11 Q ts os = awl P (.loop [1, 3, 4] [1] f45b10) Q ts os := id rfl
def f45b12 : AQ := (.block 0 f45l11)
def f45r13 : LA := [.mk none (.mov 4 (.v (.k (.c (.int .i64 2)))))]
def f45b14 : AQ := (.seq (.region f45r13) f45b12)
def f45b15 : AQ := (.seq f45b14 f45b2)
def f45r16 : LA := [.mk none (.mov 3 (.v (.k (.c (.str [])))))]
def f45b17 : AQ := (.seq (.region f45r16) f45b15)
def f45r18 : LA := [.mk none (.box 1 25 (.t 0)), .mk none (.mov 2 (.v (.k (.c (.str [])))))]
def f45b19 : AQ := (.seq (.region f45r18) f45b17)
def f45 : AQ := f45b19
theorem hf45 : zG Tryz.prog 45 = some ⟨20, f45.erase, [(RX.t 2)]⟩ := by kernel_rfl
theorem okf45 : f45.ok = true := by kernel_rfl
def f46r1 : LA := [.mk none (.mov 40 (.t 3)), .mk none (.mov 2 (.t 40))]
def f46b2 : AQ := (.seq (.region f46r1) .ret)
def f46r3 : LA := [.mk none (.mov 10 (.t 4)), .mk none (.bin 11 .add (.t 10) (.v (.k (.c (.int .i64 1))))), .mk none (.mov 4 (.t 11))]
def f46r4 : LA := [.mk none (.mov 32 (.t 3)), .mk none (.bin 33 .mul (.v (.k (.c (.int .i64 10)))) (.t 32)), .mk none (.mov 34 (.t 0)), .mk none (.mov 35 (.t 4)), .mk none (.sidx 36 (.t 34) (.t 35)), .mk none (.conv 37 .i64 (.t 36)), .mk none (.bin 38 .add (.t 33) (.t 37)), .mk none (.bin 39 .sub (.t 38) (.v (.k (.c (.int .i64 48))))), .mk none (.mov 3 (.t 39))]
def f46r5 : LA := [.mk none (.mov 2 (.v (.k (.c (.int .i64 (-1))))))]
def f46b6 : AQ := (.seq (.region f46r5) .ret)
def f46b7 : AQ := (.cond (.t 31) f46b6 .skip)
def f46r8 : LA := [.mk none (.mov 12 (.t 0)), .mk none (.mov 13 (.t 4)), .mk none (.sidx 14 (.t 12) (.t 13)), .mk none (.bin 15 .lss (.t 14) (.v (.k (.c (.int .u8 48))))), .mk none (.mov 16 (.t 15)), .mk (some (16, false)) (.mov 17 (.t 0)), .mk (some (16, false)) (.mov 18 (.t 4)), .mk (some (16, false)) (.sidx 19 (.t 17) (.t 18)), .mk (some (16, false)) (.bin 20 .gtr (.t 19) (.v (.k (.c (.int .u8 57))))), .mk none (.pick 21 (.t 16) (.v (.k (.c (.bool true)))) (.t 20)), .mk none (.mov 22 (.t 21)), .mk (some (22, false)) (.mov 23 (.t 0)), .mk (some (22, false)) (.mov 24 (.t 4)), .mk (some (22, false)) (.sidx 25 (.t 23) (.t 24)), .mk (some (22, false)) (.mov 26 (.t 0)), .mk (some (22, false)) (.mov 27 (.t 4)), .mk (some (22, false)) (.bin 28 .add (.t 27) (.v (.k (.c (.int .i64 8))))), .mk (some (22, false)) (.sidx 29 (.t 26) (.t 28)), .mk (some (22, false)) (.bin 30 .neq (.t 25) (.t 29)), .mk none (.pick 31 (.t 22) (.v (.k (.c (.bool true)))) (.t 30))]
def f46b9 : AQ := (.seq (.draw f46r8 [[], [], [0, 1], [2], [3], [4], [4], [5, 6, 4], [7, 4], [4, 8], [9, 4], [10], [10], [11, 12, 10], [10], [10], [15, 10], [14, 16, 10], [13, 17, 10], [10, 18]]) f46b7)
def f46b10 : AQ := (.seq f46b9 (.region f46r4))
def f46b11 : AQ := (.block 1 f46b10)
def f46b12 : AQ := (.seq f46b11 (.region f46r3))
def f46b13 : AQ := (.cond (.t 9) .skip (.exit 0))
def f46r14 : LA := [.mk none (.mov 8 (.t 4)), .mk none (.bin 9 .lss (.t 8) (.v (.k (.c (.int .i64 8)))))]
def f46b15 : AQ := (.seq (.region f46r14) f46b13)
def f46b16 : AQ := (.seq f46b15 f46b12)
def f46l17 : AQ := .loop [0, 3, 4] [] f46b16
theorem zly (P ts os Q) : awl P f46l17 Q ts os = awl P (.loop [0, 3, 4] [] f46b16) Q ts os := id rfl
def f46b18 : AQ := (.block 0 f46l17)
def f46r19 : LA := [.mk none (.mov 4 (.v (.k (.c (.int .i64 0)))))]
def f46b20 : AQ := (.seq (.region f46r19) f46b18)
def f46b21 : AQ := (.seq f46b20 f46b2)
def f46r22 : LA := [.mk none (.mov 3 (.v (.k (.c (.int .i64 0)))))]
def f46b23 : AQ := (.seq (.region f46r22) f46b21)
def f46r24 : LA := [.mk none (.mov 2 (.v (.k (.c (.int .i64 (-1))))))]
def f46b25 : AQ := (.seq (.region f46r24) .ret)
def f46b26 : AQ := (.cond (.t 7) f46b25 .skip)
def f46r27 : LA := [.mk none (.mov 5 (.t 0)), .mk none (.lenS 6 (.t 5)), .mk none (.bin 7 .neq (.t 6) (.v (.k (.c (.int .i64 16)))))]
def f46b28 : AQ := (.seq (.region f46r27) f46b26)
def f46b29 : AQ := (.seq f46b28 f46b23)
def f46r30 : LA := [.mk none (.mov 2 (.v (.k (.c (.int .i64 0)))))]
def f46b31 : AQ := (.seq (.region f46r30) f46b29)
def f46 : AQ := f46b31
theorem hf46 : zG Tryz.prog 46 = some ⟨41, f46.erase, [(RX.t 2)]⟩ := by kernel_rfl
theorem okf46 : f46.ok = true := by kernel_rfl
def f47r1 : LA := [.mk none (.mov 22 (.t 6)), .mk none (.mov 23 (.t 5)), .mk none (.slstr 24 (.t 22) none (some (.t 23))), .mk none (.mov 25 (.t 6)), .mk none (.mov 26 (.t 5)), .mk none (.slstr 27 (.t 25) (some (.t 26)) none), .mk none (.mov 2 (.t 24)), .mk none (.mov 3 (.t 27)), .mk none (.mov 4 (.v (.k (.c (.bool true)))))]
def f47b2 : AQ := (.seq (.draw f47r1 [[], [], [0, 1], [], [], [3, 4], [2, 0, 1, 2], [5, 6, 0, 1, 2, 3, 4, 5, 6], [7, 0, 1, 2, 3, 4, 5, 6, 7]]) .ret)
def f47r3 : LA := [.mk none (.mov 2 (.v (.k (.c (.str []))))), .mk none (.mov 3 (.v (.k (.c (.str []))))), .mk none (.mov 4 (.v (.k (.c (.bool false)))))]
def f47b4 : AQ := (.seq (.region f47r3) .ret)
def f47b5 : AQ := (.cond (.t 21) f47b4 .skip)
def f47r6 : LA := [.mk none (.mov 14 (.t 7)), .mk none (.un 15 .not (.t 14)), .mk none (.mov 16 (.t 15)), .mk (some (16, false)) (.mov 17 (.t 5)), .mk (some (16, false)) (.mov 18 (.t 6)), .mk (some (16, false)) (.lenS 19 (.t 18)), .mk (some (16, false)) (.bin 20 .gtr (.t 17) (.t 19)), .mk none (.pick 21 (.t 16) (.v (.k (.c (.bool true)))) (.t 20))]
def f47b7 : AQ := (.seq (.region f47r6) f47b5)
def f47b8 : AQ := (.seq f47b7 f47b2)
def f47r9 : LA := [.mk none (.mov 9 (.t 0)), .mk none (.call (some 10) 72 [(.t 9)]), .mk none (.mov 8 (.t 10)), .mk none (.extr 11 (.t 8) 0), .mk none (.extr 12 (.t 8) 1), .mk none (.extr 13 (.t 8) 2), .mk none (.mov 5 (.t 11)), .mk none (.mov 6 (.t 12)), .mk none (.mov 7 (.t 13))]
def f47b10 : AQ := (.seq (.region f47r9) f47b8)
def f47r11 : LA := [.mk none (.mov 2 (.v (.k (.c (.str []))))), .mk none (.mov 3 (.v (.k (.c (.str []))))), .mk none (.mov 4 (.v (.k (.c (.bool false)))))]
def f47b12 : AQ := (.seq (.region f47r11) f47b10)
def f47 : AQ := f47b12
theorem hf47 : zG Tryz.prog 47 = some ⟨28, f47.erase, [(RX.t 2), (RX.t 3), (RX.t 4)]⟩ := by kernel_rfl
theorem okf47 : f47.ok = true := by kernel_rfl
def f48r1 : LA := [.mk none (.mov 3 (.t 0)), .mk none (.len 4 (.t 3)), .mk none (.bin 5 .leq (.t 4) (.v (.k (.c (.int .i64 3))))), .mk none (.mov 6 (.t 5)), .mk (some (6, true)) (.mov 7 (.t 0)), .mk (some (6, true)) (.call (some 8) 73 [(.t 7), (.v (.k (.c (.fn 74 []))))]), .mk (some (6, true)) (.un 9 .not (.t 8)), .mk none (.pick 10 (.t 6) (.t 9) (.v (.k (.c (.bool false))))), .mk none (.mov 2 (.t 10))]
def f48b2 : AQ := (.seq (.region f48r1) .ret)
def f48r3 : LA := [.mk none (.mov 2 (.v (.k (.c (.bool false)))))]
def f48b4 : AQ := (.seq (.region f48r3) f48b2)
def f48 : AQ := f48b4
theorem hf48 : zG Tryz.prog 48 = some ⟨11, f48.erase, [(RX.t 2)]⟩ := by kernel_rfl
theorem okf48 : f48.ok = true := by kernel_rfl
def f51r1 : LA := [.mk none (.mov 47 (.t 5)), .mk none (.mov 4 (.t 47))]
def f51b2 : AQ := (.seq (.region f51r1) .ret)
def f51r3 : LA := [.mk none (.mov 43 (.t 5)), .mk none (.mov 44 (.t 1)), .mk none (.bslice 45 9 1 [(.str [])] 1 [(0, (.t 44))]), .mk none (.append 46 9 1 16 (.t 43) (.t 45)), .mk none (.mov 5 (.t 46))]
def f51b4 : AQ := (.cond (.t 42) (.region f51r3) .skip)
def f51r5 : LA := [.mk none (.mov 41 (.t 6)), .mk none (.un 42 .not (.t 41))]
def f51b6 : AQ := (.seq (.region f51r5) f51b4)
def f51b7 : AQ := (.seq f51b6 f51b2)
def f51r8 : LA := [.mk none (.mov 12 (.t 7)), .mk none (.bin 13 .add (.t 12) (.v (.k (.c (.int .i64 1))))), .mk none (.mov 7 (.t 13))]
def f51r9 : LA := [.mk none (.mov 34 (.t 5)), .mk none (.mov 35 (.t 0)), .mk none (.mov 36 (.t 7)), .mk none (.iaddr 37 1 (.t 35) (.t 36)), .mk none (.load 38 1 false (.t 37)), .mk none (.bslice 39 9 1 [(.str [])] 1 [(0, (.t 38))]), .mk none (.append 40 9 1 16 (.t 34) (.t 39)), .mk none (.mov 5 (.t 40))]
def f51r10 : LA := [.mk none (.mov 6 (.v (.k (.c (.bool true)))))]
def f51r11 : LA := [.mk none (.mov 30 (.t 5)), .mk none (.mov 31 (.t 1)), .mk none (.bslice 32 9 1 [(.str [])] 1 [(0, (.t 31))]), .mk none (.append 33 9 1 16 (.t 30) (.t 32)), .mk none (.mov 5 (.t 33))]
def f51b12 : AQ := (.cond (.t 29) (.region f51r11) .skip)
def f51r13 : LA := [.mk none (.mov 24 (.t 1)), .mk none (.mov 25 (.t 0)), .mk none (.mov 26 (.t 7)), .mk none (.iaddr 27 1 (.t 25) (.t 26)), .mk none (.load 28 1 false (.t 27)), .mk none (.bin 29 .lss (.t 24) (.t 28))]
def f51b14 : AQ := (.seq (.region f51r13) f51b12)
def f51b15 : AQ := (.seq f51b14 (.region f51r10))
def f51b16 : AQ := (.cond (.t 23) f51b15 .skip)
def f51r17 : LA := [.mk none (.mov 14 (.t 6)), .mk none (.un 15 .not (.t 14)), .mk none (.mov 16 (.t 15)), .mk (some (16, true)) (.mov 17 (.t 1)), .mk (some (16, true)) (.mov 18 (.t 0)), .mk (some (16, true)) (.mov 19 (.t 7)), .mk (some (16, true)) (.iaddr 20 1 (.t 18) (.t 19)), .mk (some (16, true)) (.load 21 1 false (.t 20)), .mk (some (16, true)) (.bin 22 .leq (.t 17) (.t 21)), .mk none (.pick 23 (.t 16) (.t 22) (.v (.k (.c (.bool false)))))]
def f51b18 : AQ := (.seq (.region f51r17) f51b16)
def f51b19 : AQ := (.seq f51b18 (.region f51r9))
def f51b20 : AQ := (.block 1 f51b19)
def f51b21 : AQ := (.seq f51b20 (.region f51r8))
def f51b22 : AQ := (.cond (.t 11) .skip (.exit 0))
def f51r23 : LA := [.mk none (.mov 8 (.t 7)), .mk none (.mov 9 (.t 0)), .mk none (.len 10 (.t 9)), .mk none (.bin 11 .lss (.t 8) (.t 10))]
def f51b24 : AQ := (.seq (.region f51r23) f51b22)
def f51b25 : AQ := (.seq f51b24 f51b21)
def f51l26 : AQ := .loop [0, 1, 5, 6, 7] [5, 33, 40, 46] f51b25
theorem zlz (P ts os Q) : awl P f51l26 Q ts os = awl P (.loop [0, 1, 5, 6, 7] [5, 33, 40, 46] f51b25) Q ts os := id rfl
def f51b27 : AQ := (.block 0 f51l26)
def f51r28 : LA := [.mk none (.mov 7 (.v (.k (.c (.int .i64 0)))))]
def f51b29 : AQ := (.seq (.region f51r28) f51b27)
def f51b30 : AQ := (.seq f51b29 f51b7)
def f51r31 : LA := [.mk none (.mov 6 (.v (.k (.c (.bool false)))))]
def f51b32 : AQ := (.seq (.region f51r31) f51b30)
def f51r33 : LA := [.mk none (.nilL 5 9 1)]
def f51b34 : AQ := (.seq (.region f51r33) f51b32)
def f51r35 : LA := [.mk none (.nilL 4 9 1)]
def f51b36 : AQ := (.seq (.region f51r35) f51b34)
def f51 : AQ := f51b36
theorem hf51 : zG Tryz.prog 51 = some ⟨48, f51.erase, [(RX.t 4)]⟩ := by kernel_rfl
theorem okf51 : f51.ok = true := by kernel_rfl
def f54r1 : LA := [.mk none (.mov 2 (.v (.k (.c (.int .i64 0)))))]
def f54b2 : AQ := (.seq (.region f54r1) .ret)
def f54r3 : LA := [.mk none (.mov 2 (.v (.k (.c (.int .i64 1)))))]
def f54b4 : AQ := (.seq (.region f54r3) .ret)
def f54r5 : LA := [.mk none (.mov 2 (.v (.k (.c (.int .i64 8)))))]
def f54b6 : AQ := (.seq (.region f54r5) .ret)
def f54b7 : AQ := (.cond (.t 7) f54b6 .skip)
def f54r8 : LA := [.mk none (.faddr 8 3 (.t 1)), .mk none (.load 9 1 false (.t 8)), .mk none (.mov 7 (.t 9))]
def f54b9 : AQ := (.seq (.region f54r8) f54b7)
def f54b10 : AQ := (.cond (.t 3) f54b4 f54b9)
def f54r11 : LA := [.mk none (.load 4 4 true (.t 1)), .mk none (.call (some 5) 71 [(.t 4)]), .mk none (.un 6 .not (.t 5)), .mk none (.mov 3 (.t 6))]
def f54b12 : AQ := (.seq (.region f54r11) f54b10)
def f54b13 : AQ := (.block 0 f54b12)
def f54b14 : AQ := (.seq f54b13 f54b2)
def f54r15 : LA := [.mk none (.box 1 25 (.t 0)), .mk none (.mov 2 (.v (.k (.c (.int .i64 0)))))]
def f54b16 : AQ := (.seq (.region f54r15) f54b14)
def f54 : AQ := f54b16
theorem hf54 : zG Tryz.prog 54 = some ⟨10, f54.erase, [(RX.t 2)]⟩ := by kernel_rfl
theorem okf54 : f54.ok = true := by kernel_rfl
def f58r1 : LA := [.mk none (.mov 2 (.v (.k (.c (.int .i64 0)))))]
def f58b2 : AQ := (.seq (.region f58r1) .ret)
def f58r3 : LA := [.mk none (.mov 2 (.v (.k (.c (.int .i64 1)))))]
def f58b4 : AQ := (.seq (.region f58r3) .ret)
def f58r5 : LA := [.mk none (.mov 2 (.v (.k (.c (.int .i64 8)))))]
def f58b6 : AQ := (.seq (.region f58r5) .ret)
def f58r7 : LA := [.mk none (.mov 2 (.v (.k (.c (.int .i64 7)))))]
def f58b8 : AQ := (.seq (.region f58r7) .ret)
def f58b9 : AQ := (.cond (.t 10) f58b8 .skip)
def f58r10 : LA := [.mk none (.faddr 11 1 (.t 1)), .mk none (.load 12 1 false (.t 11)), .mk none (.len 13 (.t 12)), .mk none (.bin 14 .gtr (.t 13) (.v (.k (.c (.int .i64 0))))), .mk none (.mov 10 (.t 14))]
def f58b11 : AQ := (.seq (.region f58r10) f58b9)
def f58b12 : AQ := (.cond (.t 7) f58b6 f58b11)
def f58r13 : LA := [.mk none (.faddr 8 3 (.t 1)), .mk none (.load 9 1 false (.t 8)), .mk none (.mov 7 (.t 9))]
def f58b14 : AQ := (.seq (.region f58r13) f58b12)
def f58b15 : AQ := (.cond (.t 3) f58b4 f58b14)
def f58r16 : LA := [.mk none (.load 4 4 true (.t 1)), .mk none (.call (some 5) 84 [(.t 4)]), .mk none (.bin 6 .neq (.t 5) (.v (.k (.c (.int .i64 0))))), .mk none (.mov 3 (.t 6))]
def f58b17 : AQ := (.seq (.region f58r16) f58b15)
def f58b18 : AQ := (.block 0 f58b17)
def f58b19 : AQ := (.seq f58b18 f58b2)
def f58r20 : LA := [.mk none (.box 1 25 (.t 0)), .mk none (.mov 2 (.v (.k (.c (.int .i64 0)))))]
def f58b21 : AQ := (.seq (.region f58r20) f58b19)
def f58 : AQ := f58b21
theorem hf58 : zG Tryz.prog 58 = some ⟨15, f58.erase, [(RX.t 2)]⟩ := by kernel_rfl
theorem okf58 : f58.ok = true := by kernel_rfl
def f59r1 : LA := [.mk none (.load 50 4 true (.t 3)), .mk none (.store 4 (.t 6) (.t 50)), .mk none (.mov 7 (.v (.k (.c (.int .i64 0)))))]
def f59b2 : AQ := (.seq (.region f59r1) .ret)
def f59r3 : LA := [.mk none (.faddr 37 1 (.t 3)), .mk none (.load 38 1 false (.t 37)), .mk none (.mov 39 (.t 1)), .mk none (.mov 40 (.t 2)), .mk none (.mov 41 (.t 2)), .mk none (.lenS 42 (.t 41)), .mk none (.bin 43 .sub (.v (.k (.c (.int .i64 16)))) (.t 42)), .mk none (.call (some 44) 57 [(.v (.k (.c (.str [0])))), (.t 43)]), .mk none (.bin 45 .add (.t 40) (.t 44)), .mk none (.build 46 [(.int .i64 0), (.str [])] [(0, (1, (.t 39))), (1, (1, (.t 45)))]), .mk none (.bslice 47 52 2 [(.int .i64 0), (.str [])] 1 [(0, (.t 46))]), .mk none (.append 48 52 2 24 (.t 38) (.t 47)), .mk none (.faddr 49 1 (.t 3)), .mk none (.store 1 (.t 49) (.t 48))]
def f59b4 : AQ := (.seq (.draw f59r3 [[], [0], [], [], [], [4], [5], [6], [3, 7], [2, 8], [9], [1, 10, 7], [0, 1, 2, 3, 4, 5, 6, 7, 8, 9, 10, 11], [12, 11, 11, 0, 1, 2, 3, 4, 5, 6, 7, 8, 9, 10, 11]]) f59b2)
def f59r5 : LA := [.mk none (.load 35 4 true (.t 3)), .mk none (.call (some 36) 55 [(.t 35)]), .mk none (.store 4 (.t 3) (.t 36))]
def f59b6 : AQ := (.seq (.region f59r5) f59b4)
def f59r7 : LA := [.mk none (.build 34 [(.list 0 (some true) []), (.list 0 (some true) []), (.int .i64 0), (.bool false)] []), .mk none (.store 4 (.t 6) (.t 34)), .mk none (.mov 7 (.v (.k (.c (.int .i64 6)))))]
def f59b8 : AQ := (.seq (.region f59r7) .ret)
def f59b9 : AQ := (.cond (.t 33) f59b8 .skip)
def f59r10 : LA := [.mk none (.faddr 30 1 (.t 3)), .mk none (.load 31 1 false (.t 30)), .mk none (.len 32 (.t 31)), .mk none (.bin 33 .eql (.t 32) (.v (.k (.c (.int .i64 512)))))]
def f59b11 : AQ := (.seq (.region f59r10) f59b9)
def f59b12 : AQ := (.seq f59b11 f59b6)
def f59r13 : LA := [.mk none (.build 29 [(.list 0 (some true) []), (.list 0 (some true) []), (.int .i64 0), (.bool false)] []), .mk none (.store 4 (.t 6) (.t 29)), .mk none (.mov 7 (.v (.k (.c (.int .i64 1)))))]
def f59b14 : AQ := (.seq (.region f59r13) .ret)
def f59b15 : AQ := (.cond (.t 28) f59b14 .skip)
def f59r16 : LA := [.mk none (.mov 15 (.t 1)), .mk none (.bin 16 .lss (.t 15) (.v (.k (.c (.int .i64 0))))), .mk none (.mov 17 (.t 16)), .mk (some (17, false)) (.mov 18 (.t 1)), .mk (some (17, false)) (.faddr 19 0 (.t 3)), .mk (some (17, false)) (.load 20 1 false (.t 19)), .mk (some (17, false)) (.len 21 (.t 20)), .mk (some (17, false)) (.bin 22 .geq (.t 18) (.t 21)), .mk none (.pick 23 (.t 17) (.v (.k (.c (.bool true)))) (.t 22)), .mk none (.mov 24 (.t 23)), .mk (some (24, false)) (.mov 25 (.t 2)), .mk (some (24, false)) (.lenS 26 (.t 25)), .mk (some (24, false)) (.bin 27 .gtr (.t 26) (.v (.k (.c (.int .i64 16))))), .mk none (.pick 28 (.t 24) (.v (.k (.c (.bool true)))) (.t 27))]
def f59b17 : AQ := (.seq (.region f59r16) f59b15)
def f59b18 : AQ := (.seq f59b17 f59b12)
def f59r19 : LA := [.mk none (.build 13 [(.list 0 (some true) []), (.list 0 (some true) []), (.int .i64 0), (.bool false)] []), .mk none (.mov 14 (.t 8)), .mk none (.store 4 (.t 6) (.t 13)), .mk none (.mov 7 (.t 14))]
def f59b20 : AQ := (.seq (.region f59r19) .ret)
def f59b21 : AQ := (.cond (.t 12) f59b20 .skip)
def f59r22 : LA := [.mk none (.mov 11 (.t 8)), .mk none (.bin 12 .neq (.t 11) (.v (.k (.c (.int .i64 0)))))]
def f59b23 : AQ := (.seq (.region f59r22) f59b21)
def f59r24 : LA := [.mk none (.load 9 4 true (.t 3)), .mk none (.call (some 10) 54 [(.t 9)]), .mk none (.mov 8 (.t 10))]
def f59b25 : AQ := (.seq (.region f59r24) f59b23)
def f59b26 : AQ := (.seq f59b25 f59b18)
def f59r27 : LA := [.mk none (.box 3 25 (.t 0)), .mk none (.alloc 6 25 [(.list 0 (some true) []), (.list 0 (some true) []), (.int .i64 0), (.bool false)]), .mk none (.mov 7 (.v (.k (.c (.int .i64 0)))))]
def f59b28 : AQ := (.seq (.region f59r27) f59b26)
def f59 : AQ := f59b28
theorem hf59 : zG Tryz.prog 59 = some ⟨51, f59.erase, [(RX.cell 6 4 true), (RX.t 7)]⟩ := by kernel_rfl
theorem okf59 : f59.ok = true := by kernel_rfl
def f61r1 : LA := [.mk none (.load 85 4 true (.t 1)), .mk none (.store 4 (.t 2) (.t 85)), .mk none (.mov 3 (.v (.k (.c (.int .i64 0)))))]
def f61b2 : AQ := (.seq (.region f61r1) .ret)
def f61r3 : LA := [.mk none (.faddr 80 2 (.t 1)), .mk none (.load 81 1 false (.t 80)), .mk none (.mov 82 (.t 5)), .mk none (.bin 83 .sub (.t 81) (.t 82)), .mk none (.faddr 84 2 (.t 1)), .mk none (.store 1 (.t 84) (.t 83))]
def f61b4 : AQ := (.cond (.t 79) (.region f61r3) .skip)
def f61r5 : LA := [.mk none (.faddr 77 2 (.t 1)), .mk none (.load 78 1 false (.t 77)), .mk none (.bin 79 .geq (.t 78) (.v (.k (.c (.int .i64 0)))))]
def f61b6 : AQ := (.seq (.region f61r5) f61b4)
def f61b7 : AQ := (.seq f61b6 f61b2)
def f61r8 : LA := [.mk none (.faddr 76 1 (.t 1)), .mk none (.store 1 (.t 76) (.v (.k (.c (.list 0 (some true) [])))))]
def f61b9 : AQ := (.seq (.region f61r8) f61b7)
def f61r10 : LA := [.mk none (.load 74 4 true (.t 1)), .mk none (.call (some 75) 85 [(.t 74)]), .mk none (.store 4 (.t 2) (.t 75)), .mk none (.mov 3 (.v (.k (.c (.int .i64 8)))))]
def f61b11 : AQ := (.seq (.region f61r10) .ret)
def f61r12 : LA := [.mk none (.faddr 58 0 (.t 1)), .mk none (.load 59 1 false (.t 58)), .mk none (.faddr 60 0 (.t 9)), .mk none (.load 61 1 false (.t 60)), .mk none (.faddr 62 1 (.t 9)), .mk none (.load 63 1 false (.t 62)), .mk none (.slstr 64 (.t 63) none (some (.v (.k (.c (.int .i64 8)))))), .mk none (.faddr 65 0 (.t 1)), .mk none (.load 66 1 false (.t 65)), .mk none (.faddr 67 0 (.t 9)), .mk none (.load 68 1 false (.t 67)), .mk none (.iaddr 69 1 (.t 66) (.t 68)), .mk none (.load 70 1 false (.t 69)), .mk none (.slstr 71 (.t 70) (some (.v (.k (.c (.int .i64 8))))) none), .mk none (.bin 72 .add (.t 64) (.t 71)), .mk none (.iaddr 73 1 (.t 59) (.t 61)), .mk none (.store 1 (.t 73) (.t 72))]
def f61b13 : AQ := (.seq (.draw f61r12 [[], [0], [], [2], [], [4], [5], [], [7], [], [9], [8, 10], [11], [12], [6, 13], [1, 3, 0, 1, 2, 3, 4, 5, 6, 7, 8, 9, 10, 11, 12, 13, 14], [15, 14, 0, 1, 2, 3, 4, 5, 6, 7, 8, 9, 10, 11, 12, 13, 14]]) f61b11)
def f61r14 : LA := [.mk none (.faddr 53 1 (.t 1)), .mk none (.load 54 1 false (.t 53)), .mk none (.mov 55 (.t 5)), .mk none (.iaddr 56 2 (.t 54) (.t 55)), .mk none (.load 57 2 true (.t 56)), .mk none (.alloc 9 52 [(.int .i64 0), (.str [])]), .mk none (.store 2 (.t 9) (.t 57))]
def f61b15 : AQ := (.seq (.region f61r14) f61b13)
def f61b16 : AQ := (.cond (.t 52) f61b15 .skip)
def f61r17 : LA := [.mk none (.mov 51 (.t 6)), .mk none (.un 52 .not (.t 51))]
def f61b18 : AQ := (.seq (.region f61r17) f61b16)
def f61b19 : AQ := (.seq f61b18 f61b9)
def f61r20 : LA := [.mk none (.bin 50 .add (.t 39) (.v (.k (.c (.int .i64 1))))), .mk none (.mov 39 (.t 50))]
def f61r21 : LA := [.mk none (.faddr 43 0 (.t 1)), .mk none (.load 44 1 false (.t 43)), .mk none (.faddr 45 0 (.t 8)), .mk none (.load 46 1 false (.t 45)), .mk none (.faddr 47 1 (.t 8)), .mk none (.load 48 1 false (.t 47)), .mk none (.iaddr 49 1 (.t 44) (.t 46)), .mk none (.store 1 (.t 49) (.t 48))]
def f61r22 : LA := [.mk none (.iaddr 41 2 (.t 37) (.t 39)), .mk none (.load 42 2 true (.t 41)), .mk none (.alloc 8 52 [(.int .i64 0), (.str [])]), .mk none (.store 2 (.t 8) (.t 42))]
def f61b23 : AQ := (.seq (.region f61r22) (.region f61r21))
def f61b24 : AQ := (.block 1 f61b23)
def f61b25 : AQ := (.seq f61b24 (.region f61r20))
def f61b26 : AQ := (.cond (.t 40) .skip (.exit 0))
def f61b27 : AQ := (.seq f61b26 f61b25)
def f61r28 : LA := [.mk none (.bin 40 .lss (.t 39) (.t 38))]
def f61b29 : AQ := (.seq (.region f61r28) f61b27)
def f61l30 : AQ := .loop [1, 2, 5, 6, 37, 38, 39] [1, 2, 17, 75, 18000, 18001, 18002, 76000, 76001, 76002] f61b29
theorem zlA (P ts os Q) : awl P f61l30 Q ts os = awl P (.loop [1, 2, 5, 6, 37, 38, 39] [1, 2, 17, 75, 18000, 18001, 18002, 76000, 76001, 76002] f61b29) Q ts os := id rfl
def f61b31 : AQ := (.block 0 f61l30)
def f61r32 : LA := [.mk none (.faddr 34 1 (.t 1)), .mk none (.load 35 1 false (.t 34)), .mk none (.mov 36 (.t 5)), .mk none (.slice 37 2 (.t 35) none (some (.t 36))), .mk none (.len 38 (.t 37)), .mk none (.mov 39 (.v (.k (.c (.int .i64 0)))))]
def f61b33 : AQ := (.seq (.region f61r32) f61b31)
def f61b34 : AQ := (.seq f61b33 f61b19)
def f61r35 : LA := [.mk none (.faddr 32 2 (.t 1)), .mk none (.load 33 1 false (.t 32)), .mk none (.mov 5 (.t 33))]
def f61b36 : AQ := (.cond (.t 31) (.region f61r35) .skip)
def f61r37 : LA := [.mk none (.mov 30 (.t 6)), .mk none (.un 31 .not (.t 30))]
def f61b38 : AQ := (.seq (.region f61r37) f61b36)
def f61b39 : AQ := (.seq f61b38 f61b34)
def f61r40 : LA := [.mk none (.faddr 21 2 (.t 1)), .mk none (.load 22 1 false (.t 21)), .mk none (.bin 23 .eql (.t 22) (.v (.k (.c (.int .i64 (-1)))))), .mk none (.mov 24 (.t 23)), .mk (some (24, false)) (.faddr 25 2 (.t 1)), .mk (some (24, false)) (.load 26 1 false (.t 25)), .mk (some (24, false)) (.mov 27 (.t 5)), .mk (some (24, false)) (.bin 28 .geq (.t 26) (.t 27)), .mk none (.pick 29 (.t 24) (.v (.k (.c (.bool true)))) (.t 28)), .mk none (.mov 6 (.t 29))]
def f61b41 : AQ := (.seq (.region f61r40) f61b39)
def f61r42 : LA := [.mk none (.faddr 18 1 (.t 1)), .mk none (.load 19 1 false (.t 18)), .mk none (.len 20 (.t 19)), .mk none (.mov 5 (.t 20))]
def f61b43 : AQ := (.seq (.region f61r42) f61b41)
def f61r44 : LA := [.mk none (.load 16 4 true (.t 1)), .mk none (.call (some 17) 55 [(.t 16)]), .mk none (.store 4 (.t 1) (.t 17))]
def f61b45 : AQ := (.seq (.region f61r44) (.frz 18001 f61b43))
def f61r46 : LA := [.mk none (.build 14 [(.list 0 (some true) []), (.list 0 (some true) []), (.int .i64 0), (.bool false)] []), .mk none (.mov 15 (.t 4)), .mk none (.store 4 (.t 2) (.t 14)), .mk none (.mov 3 (.t 15))]
def f61b47 : AQ := (.seq (.region f61r46) .ret)
def f61b48 : AQ := (.cond (.t 13) f61b47 .skip)
def f61r49 : LA := [.mk none (.mov 12 (.t 4)), .mk none (.bin 13 .neq (.t 12) (.v (.k (.c (.int .i64 0)))))]
def f61b50 : AQ := (.seq (.region f61r49) f61b48)
def f61r51 : LA := [.mk none (.load 10 4 true (.t 1)), .mk none (.call (some 11) 54 [(.t 10)]), .mk none (.mov 4 (.t 11))]
def f61b52 : AQ := (.seq (.region f61r51) f61b50)
def f61b53 : AQ := (.seq f61b52 f61b45)
def f61r54 : LA := [.mk none (.box 1 25 (.t 0)), .mk none (.alloc 2 25 [(.list 0 (some true) []), (.list 0 (some true) []), (.int .i64 0), (.bool false)]), .mk none (.mov 3 (.v (.k (.c (.int .i64 0)))))]
def f61b55 : AQ := (.seq (.region f61r54) f61b53)
def f61 : AQ := f61b55
theorem hf61 : zG Tryz.prog 61 = some ⟨86, f61.erase, [(RX.cell 2 4 true), (RX.t 3)]⟩ := by kernel_rfl
theorem okf61 : f61.ok = true := by kernel_rfl
def f62r1 : LA := [.mk none (.mov 12 (.t 3)), .mk none (.mov 2 (.t 12))]
def f62b2 : AQ := (.seq (.region f62r1) .ret)
def f62r3 : LA := [.mk none (.mov 8 (.t 4)), .mk none (.bin 9 .add (.t 8) (.v (.k (.c (.int .i64 1))))), .mk none (.mov 4 (.t 9))]
def f62r4 : LA := [.mk none (.mov 10 (.t 3)), .mk none (.bin 11 .add (.t 10) (.v (.k (.c (.str [0]))))), .mk none (.mov 3 (.t 11))]
def f62b5 : AQ := (.block 1 (.region f62r4))
def f62b6 : AQ := (.seq f62b5 (.region f62r3))
def f62b7 : AQ := (.cond (.t 7) .skip (.exit 0))
def f62r8 : LA := [.mk none (.mov 5 (.t 4)), .mk none (.mov 6 (.t 0)), .mk none (.bin 7 .lss (.t 5) (.t 6))]
def f62b9 : AQ := (.seq (.region f62r8) f62b7)
def f62b10 : AQ := (.seq f62b9 f62b6)
def f62l11 : AQ := .loop [0, 3, 4] [] f62b10
theorem zlB (P ts os Q) : awl P f62l11 Q ts os = awl P (.loop [0, 3, 4] [] f62b10) Q ts os := id rfl
def f62b12 : AQ := (.block 0 f62l11)
def f62r13 : LA := [.mk none (.mov 4 (.v (.k (.c (.int .i64 0)))))]
def f62b14 : AQ := (.seq (.region f62r13) f62b12)
def f62b15 : AQ := (.seq f62b14 f62b2)
def f62r16 : LA := [.mk none (.mov 3 (.v (.k (.c (.str [])))))]
def f62b17 : AQ := (.seq (.region f62r16) f62b15)
def f62r18 : LA := [.mk none (.mov 2 (.v (.k (.c (.str [])))))]
def f62b19 : AQ := (.seq (.region f62r18) f62b17)
def f62 : AQ := f62b19
theorem hf62 : zG Tryz.prog 62 = some ⟨13, f62.erase, [(RX.t 2)]⟩ := by kernel_rfl
theorem okf62 : f62.ok = true := by kernel_rfl
def f63r1 : LA := [.mk none (.load 66 4 true (.t 3)), .mk none (.store 4 (.t 6) (.t 66)), .mk none (.mov 7 (.v (.k (.c (.int .i64 0)))))]
def f63b2 : AQ := (.seq (.region f63r1) .ret)
def f63r3 : LA := [.mk none (.mov 64 (.t 9)), .mk none (.faddr 65 1 (.t 3)), .mk none (.store 1 (.t 65) (.t 64))]
def f63b4 : AQ := (.seq (.region f63r3) f63b2)
def f63r5 : LA := [.mk none (.mov 53 (.t 9)), .mk none (.mov 54 (.t 1)), .mk none (.mov 55 (.t 2)), .mk none (.mov 56 (.t 2)), .mk none (.lenS 57 (.t 56)), .mk none (.bin 58 .sub (.v (.k (.c (.int .i64 16)))) (.t 57)), .mk none (.call (some 59) 62 [(.t 58)]), .mk none (.bin 60 .add (.t 55) (.t 59)), .mk none (.build 61 [(.int .i64 0), (.str [])] [(0, (1, (.t 54))), (1, (1, (.t 60)))]), .mk none (.bslice 62 52 2 [(.int .i64 0), (.str [])] 1 [(0, (.t 61))]), .mk none (.append 63 52 2 24 (.t 53) (.t 62)), .mk none (.mov 9 (.t 63))]
def f63b6 : AQ := (.seq (.region f63r5) f63b4)
def f63r7 : LA := [.mk none (.mov 43 (.t 10)), .mk none (.bin 44 .add (.t 43) (.v (.k (.c (.int .i64 1))))), .mk none (.mov 10 (.t 44))]
def f63r8 : LA := [.mk none (.mov 45 (.t 9)), .mk none (.faddr 46 1 (.t 3)), .mk none (.load 47 1 false (.t 46)), .mk none (.mov 48 (.t 10)), .mk none (.iaddr 49 2 (.t 47) (.t 48)), .mk none (.load 50 2 true (.t 49)), .mk none (.bslice 51 52 2 [(.int .i64 0), (.str [])] 1 [(0, (.t 50))]), .mk none (.append 52 52 2 24 (.t 45) (.t 51)), .mk none (.mov 9 (.t 52))]
def f63b9 : AQ := (.block 1 (.region f63r8))
def f63b10 : AQ := (.seq f63b9 (.region f63r7))
def f63b11 : AQ := (.cond (.t 42) .skip (.exit 0))
def f63r12 : LA := [.mk none (.mov 38 (.t 10)), .mk none (.faddr 39 1 (.t 3)), .mk none (.load 40 1 false (.t 39)), .mk none (.len 41 (.t 40)), .mk none (.bin 42 .lss (.t 38) (.t 41))]
def f63b13 : AQ := (.seq (.region f63r12) f63b11)
def f63b14 : AQ := (.seq f63b13 f63b10)
def f63l15 : AQ := .loop [1, 2, 3, 6, 9, 10] [3, 6, 37, 52, 63] f63b14
theorem zlC (P ts os Q) : awl P f63l15 Q ts os = awl P (.loop [1, 2, 3, 6, 9, 10] [3, 6, 37, 52, 63] f63b14) Q ts os := id rfl
def f63b16 : AQ := (.block 0 f63l15)
def f63r17 : LA := [.mk none (.mov 10 (.v (.k (.c (.int .i64 0)))))]
def f63b18 : AQ := (.seq (.region f63r17) f63b16)
def f63b19 : AQ := (.seq f63b18 f63b6)
def f63r20 : LA := [.mk none (.bslice 37 52 2 [(.int .i64 0), (.str [])] 0 []), .mk none (.mov 9 (.t 37))]
def f63b21 : AQ := (.seq (.region f63r20) f63b19)
def f63r22 : LA := [.mk none (.build 36 [(.list 0 (some true) []), (.list 0 (some true) []), (.int .i64 0), (.bool false)] []), .mk none (.store 4 (.t 6) (.t 36)), .mk none (.mov 7 (.v (.k (.c (.int .i64 6)))))]
def f63b23 : AQ := (.seq (.region f63r22) .ret)
def f63b24 : AQ := (.cond (.t 35) f63b23 .skip)
def f63r25 : LA := [.mk none (.faddr 32 1 (.t 3)), .mk none (.load 33 1 false (.t 32)), .mk none (.len 34 (.t 33)), .mk none (.bin 35 .geq (.t 34) (.v (.k (.c (.int .i64 512)))))]
def f63b26 : AQ := (.seq (.region f63r25) f63b24)
def f63b27 : AQ := (.seq f63b26 f63b21)
def f63r28 : LA := [.mk none (.build 31 [(.list 0 (some true) []), (.list 0 (some true) []), (.int .i64 0), (.bool false)] []), .mk none (.store 4 (.t 6) (.t 31)), .mk none (.mov 7 (.v (.k (.c (.int .i64 1)))))]
def f63b29 : AQ := (.seq (.region f63r28) .ret)
def f63b30 : AQ := (.cond (.t 30) f63b29 .skip)
def f63r31 : LA := [.mk none (.mov 17 (.t 1)), .mk none (.bin 18 .lss (.t 17) (.v (.k (.c (.int .i64 0))))), .mk none (.mov 19 (.t 18)), .mk (some (19, false)) (.mov 20 (.t 1)), .mk (some (19, false)) (.faddr 21 0 (.t 3)), .mk (some (19, false)) (.load 22 1 false (.t 21)), .mk (some (19, false)) (.len 23 (.t 22)), .mk (some (19, false)) (.bin 24 .geq (.t 20) (.t 23)), .mk none (.pick 25 (.t 19) (.v (.k (.c (.bool true)))) (.t 24)), .mk none (.mov 26 (.t 25)), .mk (some (26, false)) (.mov 27 (.t 2)), .mk (some (26, false)) (.lenS 28 (.t 27)), .mk (some (26, false)) (.bin 29 .gtr (.t 28) (.v (.k (.c (.int .i64 16))))), .mk none (.pick 30 (.t 26) (.v (.k (.c (.bool true)))) (.t 29))]
def f63b32 : AQ := (.seq (.region f63r31) f63b30)
def f63b33 : AQ := (.seq f63b32 f63b27)
def f63r34 : LA := [.mk none (.build 15 [(.list 0 (some true) []), (.list 0 (some true) []), (.int .i64 0), (.bool false)] []), .mk none (.mov 16 (.t 8)), .mk none (.store 4 (.t 6) (.t 15)), .mk none (.mov 7 (.t 16))]
def f63b35 : AQ := (.seq (.region f63r34) .ret)
def f63b36 : AQ := (.cond (.t 14) f63b35 .skip)
def f63r37 : LA := [.mk none (.mov 13 (.t 8)), .mk none (.bin 14 .neq (.t 13) (.v (.k (.c (.int .i64 0)))))]
def f63b38 : AQ := (.seq (.region f63r37) f63b36)
def f63b39 : AQ := (.seq f63b38 f63b33)
def f63r40 : LA := [.mk none (.load 11 4 true (.t 3)), .mk none (.call (some 12) 86 [(.t 11)]), .mk none (.mov 8 (.t 12))]
def f63b41 : AQ := (.seq (.region f63r40) f63b39)
def f63r42 : LA := [.mk none (.box 3 25 (.t 0)), .mk none (.alloc 6 25 [(.list 0 (some true) []), (.list 0 (some true) []), (.int .i64 0), (.bool false)]), .mk none (.mov 7 (.v (.k (.c (.int .i64 0)))))]
def f63b43 : AQ := (.seq (.region f63r42) f63b41)
def f63 : AQ := f63b43
theorem hf63 : zG Tryz.prog 63 = some ⟨67, f63.erase, [(RX.cell 6 4 true), (RX.t 7)]⟩ := by kernel_rfl
theorem okf63 : f63.ok = true := by kernel_rfl
def f64r1 : LA := [.mk none (.mov 21 (.t 3)), .mk none (.mov 22 (.t 3)), .mk none (.bin 23 .add (.t 21) (.t 22)), .mk none (.mov 2 (.t 23))]
def f64b2 : AQ := (.seq (.region f64r1) .ret)
def f64r3 : LA := [.mk none (.mov 8 (.t 4)), .mk none (.bin 9 .add (.t 8) (.v (.k (.c (.int .i64 1))))), .mk none (.mov 4 (.t 9))]
def f64r4 : LA := [.mk none (.mov 19 (.t 0)), .mk none (.bin 20 .quo (.t 19) (.v (.k (.c (.int .i64 10))))), .mk none (.mov 0 (.t 20))]
def f64r5 : LA := [.mk none (.mov 10 (.t 5)), .mk none (.mov 11 (.t 0)), .mk none (.bin 12 .rem (.t 11) (.v (.k (.c (.int .i64 10))))), .mk none (.mov 13 (.t 0)), .mk none (.bin 14 .rem (.t 13) (.v (.k (.c (.int .i64 10))))), .mk none (.bin 15 .add (.t 14) (.v (.k (.c (.int .i64 1))))), .mk none (.slstr 16 (.t 10) (some (.t 12)) (some (.t 15))), .mk none (.mov 17 (.t 3)), .mk none (.bin 18 .add (.t 16) (.t 17)), .mk none (.mov 3 (.t 18))]
def f64b6 : AQ := (.seq (.region f64r5) (.region f64r4))
def f64r7 : LA := [.mk none (.mov 5 (.v (.k (.c (.str [48, 49, 50, 51, 52, 53, 54, 55, 56, 57])))))]
def f64b8 : AQ := (.seq (.region f64r7) f64b6)
def f64b9 : AQ := (.block 1 f64b8)
def f64b10 : AQ := (.seq f64b9 (.region f64r3))
def f64b11 : AQ := (.cond (.t 7) .skip (.exit 0))
def f64r12 : LA := [.mk none (.mov 6 (.t 4)), .mk none (.bin 7 .lss (.t 6) (.v (.k (.c (.int .i64 8)))))]
def f64b13 : AQ := (.seq (.region f64r12) f64b11)
def f64b14 : AQ := (.seq f64b13 f64b10)
def f64l15 : AQ := .loop [0, 3, 4] [] f64b14
theorem zlD (P ts os Q) : awl P f64l15 Q ts os = awl P (.loop [0, 3, 4] [] f64b14) Q ts os := id rfl
def f64b16 : AQ := (.block 0 f64l15)
def f64r17 : LA := [.mk none (.mov 4 (.v (.k (.c (.int .i64 0)))))]
def f64b18 : AQ := (.seq (.region f64r17) f64b16)
def f64b19 : AQ := (.seq f64b18 f64b2)
def f64r20 : LA := [.mk none (.mov 3 (.v (.k (.c (.str [])))))]
def f64b21 : AQ := (.seq (.region f64r20) f64b19)
def f64r22 : LA := [.mk none (.mov 2 (.v (.k (.c (.str [])))))]
def f64b23 : AQ := (.seq (.region f64r22) f64b21)
def f64 : AQ := f64b23
theorem hf64 : zG Tryz.prog 64 = some ⟨24, f64.erase, [(RX.t 2)]⟩ := by kernel_rfl
theorem okf64 : f64.ok = true := by kernel_rfl
def f65r1 : LA := [.mk none (.load 65 4 true (.t 8)), .mk none (.store 4 (.t 2) (.t 65)), .mk none (.mov 3 (.v (.k (.c (.int .i64 0)))))]
def f65b2 : AQ := (.seq (.region f65r1) .ret)
def f65r3 : LA := [.mk none (.faddr 60 2 (.t 1)), .mk none (.load 61 1 false (.t 60)), .mk none (.mov 62 (.t 5)), .mk none (.bin 63 .sub (.t 61) (.t 62)), .mk none (.faddr 64 2 (.t 8)), .mk none (.store 1 (.t 64) (.t 63))]
def f65b4 : AQ := (.cond (.t 59) (.region f65r3) .skip)
def f65r5 : LA := [.mk none (.faddr 57 2 (.t 1)), .mk none (.load 58 1 false (.t 57)), .mk none (.bin 59 .geq (.t 58) (.v (.k (.c (.int .i64 0)))))]
def f65b6 : AQ := (.seq (.region f65r5) f65b4)
def f65b7 : AQ := (.seq f65b6 f65b2)
def f65r8 : LA := [.mk none (.load 53 4 true (.t 1)), .mk none (.mov 54 (.t 5)), .mk none (.call (some 55) 87 [(.t 53), (.t 54)]), (AI.mk none (.build 56 [(.list 0 (some true) []), (.list 0 (some true) []), (.int .i64 0), (.bool false)] [(0, (1, (.t 55))), (2, (1, (.v (.k (.c (.int .i64 (-1)))))))])), .mk none (.alloc 8 25 [(.list 0 (some true) []), (.list 0 (some true) []), (.int .i64 0), (.bool false)]), .mk none (.store 4 (.t 8) (.t 56))]
def f65b9 : AQ := (.seq (.region f65r8) f65b7)
def f65r10 : LA := [.mk none (.mov 51 (.t 6)), (AI.mk none (.build 52 [(.list 0 (some true) []), (.list 0 (some true) []), (.int .i64 0), (.bool false)] [(0, (1, (.t 51))), (2, (1, (.v (.k (.c (.int .i64 (-1))))))), (3, (1, (.v (.k (.c (.bool true))))))])), .mk none (.store 4 (.t 2) (.t 52)), .mk none (.mov 3 (.v (.k (.c (.int .i64 8)))))]
def f65b11 : AQ := (.seq (.region f65r10) .ret)
def f65r12 : LA := [.mk none (.mov 37 (.t 6)), .mk none (.faddr 38 0 (.t 7)), .mk none (.load 39 1 false (.t 38)), .mk none (.faddr 40 1 (.t 7)), .mk none (.load 41 1 false (.t 40)), .mk none (.slstr 42 (.t 41) none (some (.v (.k (.c (.int .i64 8)))))), .mk none (.mov 43 (.t 6)), .mk none (.faddr 44 0 (.t 7)), .mk none (.load 45 1 false (.t 44)), .mk none (.iaddr 46 1 (.t 43) (.t 45)), .mk none (.load 47 1 false (.t 46)), .mk none (.slstr 48 (.t 47) (some (.v (.k (.c (.int .i64 8))))) none), .mk none (.bin 49 .add (.t 42) (.t 48)), .mk none (.iaddr 50 1 (.t 37) (.t 39)), .mk none (.store 1 (.t 50) (.t 49))]
def f65b13 : AQ := (.seq (.draw f65r12 [[], [], [1], [], [3], [4], [], [], [7], [6, 8], [9], [10], [5, 11], [0, 2, 0, 1, 2, 3, 4, 5, 6, 7, 8, 9, 10, 11, 12], [13, 12, 0, 1, 2, 3, 4, 5, 6, 7, 8, 9, 10, 11, 12]]) f65b11)
def f65r14 : LA := [.mk none (.faddr 31 1 (.t 1)), .mk none (.load 32 1 false (.t 31)), .mk none (.faddr 33 2 (.t 1)), .mk none (.load 34 1 false (.t 33)), .mk none (.iaddr 35 2 (.t 32) (.t 34)), .mk none (.load 36 2 true (.t 35)), .mk none (.alloc 7 52 [(.int .i64 0), (.str [])]), .mk none (.store 2 (.t 7) (.t 36))]
def f65b15 : AQ := (.seq (.region f65r14) f65b13)
def f65r16 : LA := [.mk none (.load 27 4 true (.t 1)), .mk none (.faddr 28 2 (.t 1)), .mk none (.load 29 1 false (.t 28)), .mk none (.call (some 30) 87 [(.t 27), (.t 29)]), .mk none (.mov 6 (.t 30))]
def f65b17 : AQ := (.seq (.region f65r16) f65b15)
def f65b18 : AQ := (.cond (.t 26) f65b17 .skip)
def f65r19 : LA := [.mk none (.faddr 18 2 (.t 1)), .mk none (.load 19 1 false (.t 18)), .mk none (.bin 20 .geq (.t 19) (.v (.k (.c (.int .i64 0))))), .mk none (.mov 21 (.t 20)), .mk (some (21, true)) (.faddr 22 2 (.t 1)), .mk (some (21, true)) (.load 23 1 false (.t 22)), .mk (some (21, true)) (.mov 24 (.t 5)), .mk (some (21, true)) (.bin 25 .lss (.t 23) (.t 24)), .mk none (.pick 26 (.t 21) (.t 25) (.v (.k (.c (.bool false)))))]
def f65b20 : AQ := (.seq (.region f65r19) f65b18)
def f65b21 : AQ := (.seq f65b20 f65b9)
def f65r22 : LA := [.mk none (.faddr 15 1 (.t 1)), .mk none (.load 16 1 false (.t 15)), .mk none (.len 17 (.t 16)), .mk none (.mov 5 (.t 17))]
def f65b23 : AQ := (.seq (.region f65r22) f65b21)
def f65r24 : LA := [.mk none (.build 13 [(.list 0 (some true) []), (.list 0 (some true) []), (.int .i64 0), (.bool false)] []), .mk none (.mov 14 (.t 4)), .mk none (.store 4 (.t 2) (.t 13)), .mk none (.mov 3 (.t 14))]
def f65b25 : AQ := (.seq (.region f65r24) .ret)
def f65b26 : AQ := (.cond (.t 12) f65b25 .skip)
def f65r27 : LA := [.mk none (.mov 11 (.t 4)), .mk none (.bin 12 .neq (.t 11) (.v (.k (.c (.int .i64 0)))))]
def f65b28 : AQ := (.seq (.region f65r27) f65b26)
def f65b29 : AQ := (.seq f65b28 f65b23)
def f65r30 : LA := [.mk none (.load 9 4 true (.t 1)), .mk none (.call (some 10) 86 [(.t 9)]), .mk none (.mov 4 (.t 10))]
def f65b31 : AQ := (.seq (.region f65r30) f65b29)
def f65r32 : LA := [.mk none (.box 1 25 (.t 0)), .mk none (.alloc 2 25 [(.list 0 (some true) []), (.list 0 (some true) []), (.int .i64 0), (.bool false)]), .mk none (.mov 3 (.v (.k (.c (.int .i64 0)))))]
def f65b33 : AQ := (.seq (.region f65r32) f65b31)
def f65 : AQ := f65b33
theorem hf65 : zG Tryz.prog 65 = some ⟨66, f65.erase, [(RX.cell 2 4 true), (RX.t 3)]⟩ := by kernel_rfl
theorem okf65 : f65.ok = true := by kernel_rfl
def f66r1 : LA := [.mk none (.load 106 3 true (.t 5)), .mk none (.store 3 (.t 2) (.t 106)), .mk none (.mov 3 (.v (.k (.c (.int .i64 0)))))]
def f66b2 : AQ := (.seq (.region f66r1) .ret)
def f66r3 : LA := [.mk none (.faddr 99 0 (.t 5)), .mk none (.load 100 1 false (.t 99)), .mk none (.mov 101 (.t 12)), .mk none (.bslice 102 9 1 [(.str [])] 1 [(0, (.t 101))]), .mk none (.append 103 9 1 16 (.t 100) (.t 102)), .mk none (.mov 104 (.t 13)), .mk none (.faddr 105 0 (.t 5)), .mk none (.store 1 (.t 105) (.t 103)), .mk none (.mov 11 (.t 104))]
def f66r4 : LA := [.mk none (.build 98 [(.list 0 (some true) []), (.str []), (.int .i64 0)] []), .mk none (.store 3 (.t 2) (.t 98)), .mk none (.mov 3 (.v (.k (.c (.int .i64 22)))))]
def f66b5 : AQ := (.seq (.region f66r4) .ret)
def f66b6 : AQ := (.cond (.t 97) f66b5 .skip)
def f66r7 : LA := [.mk none (.mov 85 (.t 14)), .mk none (.un 86 .not (.t 85)), .mk none (.mov 87 (.t 86)), .mk (some (87, false)) (.mov 88 (.t 12)), .mk (some (87, false)) (.lenS 89 (.t 88)), .mk (some (87, false)) (.bin 90 .gtr (.t 89) (.v (.k (.c (.int .i64 2000))))), .mk none (.pick 91 (.t 87) (.v (.k (.c (.bool true)))) (.t 90)), .mk none (.mov 92 (.t 91)), .mk (some (92, false)) (.faddr 93 0 (.t 5)), .mk (some (92, false)) (.load 94 1 false (.t 93)), .mk (some (92, false)) (.len 95 (.t 94)), .mk (some (92, false)) (.bin 96 .eql (.t 95) (.v (.k (.c (.int .i64 500))))), .mk none (.pick 97 (.t 92) (.v (.k (.c (.bool true)))) (.t 96))]
def f66b8 : AQ := (.seq (.region f66r7) f66b6)
def f66b9 : AQ := (.seq f66b8 (.region f66r3))
def f66r10 : LA := [.mk none (.mov 80 (.t 11)), .mk none (.call (some 81) 90 [(.t 80)]), .mk none (.mov 79 (.t 81)), .mk none (.extr 82 (.t 79) 0), .mk none (.extr 83 (.t 79) 1), .mk none (.extr 84 (.t 79) 2), .mk none (.mov 12 (.t 82)), .mk none (.mov 13 (.t 83)), .mk none (.mov 14 (.t 84))]
def f66b11 : AQ := (.seq (.region f66r10) f66b9)
def f66b12 : AQ := (.block 1 f66b11)
def f66b13 : AQ := (.cond (.t 78) .skip (.exit 0))
def f66r14 : LA := [.mk none (.mov 77 (.t 11)), .mk none (.bin 78 .neq (.t 77) (.v (.k (.c (.str [])))))]
def f66b15 : AQ := (.seq (.region f66r14) f66b13)
def f66b16 : AQ := (.seq f66b15 f66b12)
def f66l17 : AQ := .loop [2, 5, 11] [2, 5, 103] f66b16
theorem zlE (P ts os Q) : awl P f66l17 Q ts os = awl P (.loop [2, 5, 11] [2, 5, 103] f66b16) Q ts os := id rfl
def f66b18 : AQ := (.block 0 f66l17)
def f66r19 : LA := [.mk none (.faddr 75 1 (.t 5)), .mk none (.load 76 1 false (.t 75)), .mk none (.mov 11 (.t 76))]
def f66b20 : AQ := (.seq (.region f66r19) f66b18)
def f66b21 : AQ := (.seq f66b20 f66b2)
def f66r22 : LA := [.mk none (.mov 71 (.t 10)), .mk none (.mov 72 (.t 6)), .mk none (.slstr 73 (.t 71) none (some (.t 72))), .mk none (.faddr 74 1 (.t 5)), .mk none (.store 1 (.t 74) (.t 73))]
def f66b23 : AQ := (.seq (.region f66r22) f66b21)
def f66r24 : LA := [.mk none (.build 70 [(.list 0 (some true) []), (.str []), (.int .i64 0)] []), .mk none (.store 3 (.t 2) (.t 70)), .mk none (.mov 3 (.v (.k (.c (.int .i64 22)))))]
def f66b25 : AQ := (.seq (.region f66r24) .ret)
def f66b26 : AQ := (.cond (.t 69) f66b25 .skip)
def f66r27 : LA := [.mk none (.mov 58 (.t 7)), .mk none (.un 59 .not (.t 58)), .mk none (.mov 60 (.t 59)), .mk (some (60, true)) (.mov 61 (.t 9)), .mk (some (60, true)) (.un 62 .not (.t 61)), .mk none (.pick 63 (.t 60) (.t 62) (.v (.k (.c (.bool false))))), .mk none (.mov 64 (.t 63)), .mk (some (64, false)) (.mov 65 (.t 6)), .mk (some (64, false)) (.mov 66 (.t 10)), .mk (some (64, false)) (.lenS 67 (.t 66)), .mk (some (64, false)) (.bin 68 .gtr (.t 65) (.t 67)), .mk none (.pick 69 (.t 64) (.v (.k (.c (.bool true)))) (.t 68))]
def f66b28 : AQ := (.seq (.region f66r27) f66b26)
def f66b29 : AQ := (.seq f66b28 f66b23)
def f66r30 : LA := [.mk none (.faddr 54 0 (.t 1)), .mk none (.load 55 1 false (.t 54)), .mk none (.slice 56 1 (.t 55) (some (.v (.k (.c (.int .i64 2))))) none), .mk none (.call (some 57) 89 [(.t 56), (.v (.k (.c (.str []))))]), .mk none (.mov 10 (.t 57))]
def f66b31 : AQ := (.seq (.region f66r30) f66b29)
def f66r32 : LA := [.mk none (.mov 52 (.t 8)), .mk none (.mov 6 (.t 52)), .mk none (.faddr 53 2 (.t 5)), .mk none (.store 1 (.t 53) (.v (.k (.c (.int .i64 1)))))]
def f66b33 : AQ := (.cond (.t 51) (.region f66r32) .skip)
def f66r34 : LA := [.mk none (.mov 42 (.t 9)), .mk none (.mov 43 (.t 42)), .mk (some (43, true)) (.mov 44 (.t 7)), .mk (some (43, true)) (.un 45 .not (.t 44)), .mk (some (43, true)) (.mov 46 (.t 45)), .mk (some (46, false)) (.mov 47 (.t 8)), .mk (some (46, false)) (.mov 48 (.t 6)), .mk (some (46, false)) (.bin 49 .gtr (.t 47) (.t 48)), .mk (some (43, true)) (.pick 50 (.t 46) (.v (.k (.c (.bool true)))) (.t 49)), .mk none (.pick 51 (.t 43) (.t 50) (.v (.k (.c (.bool false)))))]
def f66b35 : AQ := (.seq (.region f66r34) f66b33)
def f66b36 : AQ := (.seq f66b35 (.keep [1, 2, 5, 6, 7, 9] [1, 2, 5, 103] f66b31))
def f66r37 : LA := [.mk none (.faddr 35 0 (.t 1)), .mk none (.load 36 1 false (.t 35)), .mk none (.iaddr 37 1 (.t 36) (.v (.k (.c (.int .i64 1))))), .mk none (.load 38 1 false (.t 37)), .mk none (.call (some 39) 88 [(.t 38)]), .mk none (.mov 34 (.t 39)), .mk none (.extr 40 (.t 34) 0), .mk none (.extr 41 (.t 34) 1), .mk none (.mov 8 (.t 40)), .mk none (.mov 9 (.t 41))]
def f66b38 : AQ := (.seq (.region f66r37) f66b36)
def f66r39 : LA := [.mk none (.faddr 27 0 (.t 1)), .mk none (.load 28 1 false (.t 27)), .mk none (.iaddr 29 1 (.t 28) (.v (.k (.c (.int .i64 0))))), .mk none (.load 30 1 false (.t 29)), .mk none (.call (some 31) 88 [(.t 30)]), .mk none (.mov 26 (.t 31)), .mk none (.extr 32 (.t 26) 0), .mk none (.extr 33 (.t 26) 1), .mk none (.mov 6 (.t 32)), .mk none (.mov 7 (.t 33))]
def f66b40 : AQ := (.seq (.region f66r39) f66b38)
def f66r41 : LA := [.mk none (.alloc 5 72 [(.list 0 (some true) []), (.str []), (.int .i64 0)])]
def f66b42 : AQ := (.seq (.region f66r41) f66b40)
def f66r43 : LA := [.mk none (.build 25 [(.list 0 (some true) []), (.str []), (.int .i64 0)] []), .mk none (.store 3 (.t 2) (.t 25)), .mk none (.mov 3 (.v (.k (.c (.int .i64 22)))))]
def f66b44 : AQ := (.seq (.region f66r43) .ret)
def f66b45 : AQ := (.cond (.t 24) f66b44 .skip)
def f66r46 : LA := [.mk none (.faddr 21 0 (.t 1)), .mk none (.load 22 1 false (.t 21)), .mk none (.len 23 (.t 22)), .mk none (.bin 24 .leq (.t 23) (.v (.k (.c (.int .i64 2)))))]
def f66b47 : AQ := (.seq (.region f66r46) f66b45)
def f66b48 : AQ := (.seq f66b47 f66b42)
def f66r49 : LA := [.mk none (.build 19 [(.list 0 (some true) []), (.str []), (.int .i64 0)] []), .mk none (.mov 20 (.t 4)), .mk none (.store 3 (.t 2) (.t 19)), .mk none (.mov 3 (.t 20))]
def f66b50 : AQ := (.seq (.region f66r49) .ret)
def f66b51 : AQ := (.cond (.t 18) f66b50 .skip)
def f66r52 : LA := [.mk none (.mov 17 (.t 4)), .mk none (.bin 18 .neq (.t 17) (.v (.k (.c (.int .i64 0)))))]
def f66b53 : AQ := (.seq (.region f66r52) f66b51)
def f66r54 : LA := [.mk none (.load 15 4 true (.t 1)), .mk none (.call (some 16) 58 [(.t 15)]), .mk none (.mov 4 (.t 16))]
def f66b55 : AQ := (.seq (.region f66r54) f66b53)
def f66b56 : AQ := (.seq f66b55 f66b48)
def f66r57 : LA := [.mk none (.box 1 25 (.t 0)), .mk none (.alloc 2 72 [(.list 0 (some true) []), (.str []), (.int .i64 0)]), .mk none (.mov 3 (.v (.k (.c (.int .i64 0)))))]
def f66b58 : AQ := (.seq (.region f66r57) f66b56)
def f66 : AQ := f66b58
theorem hf66 : zG Tryz.prog 66 = some ⟨107, f66.erase, [(RX.cell 2 3 true), (RX.t 3)]⟩ := by kernel_rfl
theorem okf66 : f66.ok = true := by kernel_rfl
def f67r1 : LA := [.mk none (.mov 4 (.v (.k (.c (.int .i64 (-1))))))]
def f67b2 : AQ := (.seq (.region f67r1) .ret)
def f67r3 : LA := [.mk none (.bin 18 .add (.t 8) (.v (.k (.c (.int .i64 1))))), .mk none (.mov 8 (.t 18))]
def f67r4 : LA := [.mk none (.mov 17 (.t 5)), .mk none (.mov 4 (.t 17))]
def f67b5 : AQ := (.seq (.region f67r4) .ret)
def f67b6 : AQ := (.cond (.t 16) f67b5 .skip)
def f67r7 : LA := [.mk none (.mov 11 (.t 1)), .mk none (.mov 12 (.t 0)), .mk none (.mov 13 (.t 5)), .mk none (.iaddr 14 1 (.t 12) (.t 13)), .mk none (.load 15 1 false (.t 14)), .mk none (.bin 16 .eql (.t 11) (.t 15))]
def f67b8 : AQ := (.seq (.region f67r7) f67b6)
def f67r9 : LA := [.mk none (.mov 10 (.t 8)), .mk none (.mov 5 (.t 10))]
def f67b10 : AQ := (.seq (.region f67r9) f67b8)
def f67b11 : AQ := (.block 1 f67b10)
def f67b12 : AQ := (.seq f67b11 (.region f67r3))
def f67b13 : AQ := (.cond (.t 9) .skip (.exit 0))
def f67b14 : AQ := (.seq f67b13 f67b12)
def f67r15 : LA := [.mk none (.bin 9 .lss (.t 8) (.t 7))]
def f67b16 : AQ := (.seq (.region f67r15) f67b14)
def f67l17 : AQ := .loop [0, 1, 7, 8] [] f67b16
theorem zlF (P ts os Q) : awl P f67l17 Q ts os = awl P (.loop [0, 1, 7, 8] [] f67b16) Q ts os := id rfl
def f67b18 : AQ := (.block 0 f67l17)
def f67r19 : LA := [.mk none (.mov 6 (.t 0)), .mk none (.len 7 (.t 6)), .mk none (.mov 8 (.v (.k (.c (.int .i64 0)))))]
def f67b20 : AQ := (.seq (.region f67r19) f67b18)
def f67b21 : AQ := (.seq f67b20 f67b2)
def f67r22 : LA := [.mk none (.mov 4 (.v (.k (.c (.int .i64 0)))))]
def f67b23 : AQ := (.seq (.region f67r22) f67b21)
def f67 : AQ := f67b23
theorem hf67 : zG Tryz.prog 67 = some ⟨19, f67.erase, [(RX.t 4)]⟩ := by kernel_rfl
theorem okf67 : f67.ok = true := by kernel_rfl
def f68r1 : LA := [.mk none (.mov 3 (.t 0)), .mk none (.lenS 4 (.t 3)), .mk none (.call (some 5) 91 [(.t 4)]), .mk none (.mov 6 (.t 0)), .mk none (.bin 7 .add (.t 5) (.t 6)), .mk none (.mov 2 (.t 7))]
def f68b2 : AQ := (.seq (.region f68r1) .ret)
def f68r3 : LA := [.mk none (.mov 2 (.v (.k (.c (.str [])))))]
def f68b4 : AQ := (.seq (.region f68r3) f68b2)
def f68 : AQ := f68b4
theorem hf68 : zG Tryz.prog 68 = some ⟨8, f68.erase, [(RX.t 2)]⟩ := by kernel_rfl
theorem okf68 : f68.ok = true := by kernel_rfl
def f69r1 : LA := [.mk none (.mov 19 (.t 3)), .mk none (.mov 2 (.t 19))]
def f69b2 : AQ := (.seq (.region f69r1) .ret)
def f69r3 : LA := [.mk none (.mov 9 (.t 4)), .mk none (.bin 10 .add (.t 9) (.v (.k (.c (.int .i64 1))))), .mk none (.mov 4 (.t 10))]
def f69r4 : LA := [.mk none (.mov 11 (.t 3)), .mk none (.mov 12 (.t 0)), .mk none (.mov 13 (.t 4)), .mk none (.iaddr 14 1 (.t 12) (.t 13)), .mk none (.load 15 1 false (.t 14)), .mk none (.call (some 16) 70 [(.t 15)]), .mk none (.lenS 17 (.t 16)), .mk none (.bin 18 .add (.t 11) (.t 17)), .mk none (.mov 3 (.t 18))]
def f69b5 : AQ := (.block 1 (.region f69r4))
def f69b6 : AQ := (.seq f69b5 (.region f69r3))
def f69b7 : AQ := (.cond (.t 8) .skip (.exit 0))
def f69r8 : LA := [.mk none (.mov 5 (.t 4)), .mk none (.mov 6 (.t 0)), .mk none (.len 7 (.t 6)), .mk none (.bin 8 .lss (.t 5) (.t 7))]
def f69b9 : AQ := (.seq (.region f69r8) f69b7)
def f69b10 : AQ := (.seq f69b9 f69b6)
def f69l11 : AQ := .loop [0, 3, 4] [] f69b10
theorem zlG (P ts os Q) : awl P f69l11 Q ts os = awl P (.loop [0, 3, 4] [] f69b10) Q ts os := id rfl
def f69b12 : AQ := (.block 0 f69l11)
def f69r13 : LA := [.mk none (.mov 4 (.v (.k (.c (.int .i64 0)))))]
def f69b14 : AQ := (.seq (.region f69r13) f69b12)
def f69b15 : AQ := (.seq f69b14 f69b2)
def f69r16 : LA := [.mk none (.mov 3 (.v (.k (.c (.int .i64 0)))))]
def f69b17 : AQ := (.seq (.region f69r16) f69b15)
def f69r18 : LA := [.mk none (.mov 2 (.v (.k (.c (.int .i64 0)))))]
def f69b19 : AQ := (.seq (.region f69r18) f69b17)
def f69 : AQ := f69b19
theorem hf69 : zG Tryz.prog 69 = some ⟨20, f69.erase, [(RX.t 2)]⟩ := by kernel_rfl
theorem okf69 : f69.ok = true := by kernel_rfl
def f70r1 : LA := [.mk none (.mov 3 (.t 0)), .mk none (.lenS 4 (.t 3)), .mk none (.call (some 5) 92 [(.t 4)]), .mk none (.mov 6 (.t 0)), .mk none (.bin 7 .add (.t 5) (.t 6)), .mk none (.mov 2 (.t 7))]
def f70b2 : AQ := (.seq (.region f70r1) .ret)
def f70r3 : LA := [.mk none (.mov 2 (.v (.k (.c (.str [])))))]
def f70b4 : AQ := (.seq (.region f70r3) f70b2)
def f70 : AQ := f70b4
theorem hf70 : zG Tryz.prog 70 = some ⟨8, f70.erase, [(RX.t 2)]⟩ := by kernel_rfl
theorem okf70 : f70.ok = true := by kernel_rfl
def f71r1 : LA := [.mk none (.mov 2 (.v (.k (.c (.bool true)))))]
def f71b2 : AQ := (.seq (.region f71r1) .ret)
def f71r3 : LA := [.mk none (.bin 83 .add (.t 62) (.v (.k (.c (.int .i64 1))))), .mk none (.mov 62 (.t 83))]
def f71r4 : LA := [.mk none (.mov 2 (.v (.k (.c (.bool false)))))]
def f71b5 : AQ := (.seq (.region f71r4) .ret)
def f71b6 : AQ := (.cond (.t 82) f71b5 .skip)
def f71r7 : LA := [.mk none (.faddr 66 0 (.t 6)), .mk none (.load 67 1 false (.t 66)), .mk none (.bin 68 .lss (.t 67) (.v (.k (.c (.int .i64 0))))), .mk none (.mov 69 (.t 68)), .mk (some (69, false)) (.faddr 70 0 (.t 6)), .mk (some (69, false)) (.load 71 1 false (.t 70)), .mk (some (69, false)) (.faddr 72 0 (.t 1)), .mk (some (69, false)) (.load 73 1 false (.t 72)), .mk (some (69, false)) (.len 74 (.t 73)), .mk (some (69, false)) (.bin 75 .geq (.t 71) (.t 74)), .mk none (.pick 76 (.t 69) (.v (.k (.c (.bool true)))) (.t 75)), .mk none (.mov 77 (.t 76)), .mk (some (77, false)) (.faddr 78 1 (.t 6)), .mk (some (77, false)) (.load 79 1 false (.t 78)), .mk (some (77, false)) (.lenS 80 (.t 79)), .mk (some (77, false)) (.bin 81 .neq (.t 80) (.v (.k (.c (.int .i64 16))))), .mk none (.pick 82 (.t 77) (.v (.k (.c (.bool true)))) (.t 81))]
def f71b8 : AQ := (.seq (.region f71r7) f71b6)
def f71r9 : LA := [.mk none (.iaddr 64 2 (.t 60) (.t 62)), .mk none (.load 65 2 true (.t 64)), .mk none (.alloc 6 52 [(.int .i64 0), (.str [])]), .mk none (.store 2 (.t 6) (.t 65))]
def f71b10 : AQ := (.seq (.region f71r9) f71b8)
def f71b11 : AQ := (.block 3 f71b10)
def f71b12 : AQ := (.seq f71b11 (.region f71r3))
def f71b13 : AQ := (.cond (.t 63) .skip (.exit 2))
def f71b14 : AQ := (.seq f71b13 f71b12)
def f71r15 : LA := [.mk none (.bin 63 .lss (.t 62) (.t 61))]
def f71b16 : AQ := (.seq (.region f71r15) f71b14)
def f71l17 : AQ := .loop [1, 60, 61, 62] [1] f71b16
theorem zgZ (P ts os Q) : awl P f71l17 Q ts os = awl P (.loop [1, 60, 61, 62] [1] f71b16) Q ts os := id rfl
def f71b18 : AQ := (.block 2 f71l17)
def f71r19 : LA := [.mk none (.faddr 59 1 (.t 1)), .mk none (.load 60 1 false (.t 59)), .mk none (.len 61 (.t 60)), .mk none (.mov 62 (.v (.k (.c (.int .i64 0)))))]
def f71b20 : AQ := (.seq (.region f71r19) f71b18)
def f71b21 : AQ := (.seq f71b20 f71b2)
def f71r22 : LA := [.mk none (.bin 58 .add (.t 51) (.v (.k (.c (.int .i64 1))))), .mk none (.mov 51 (.t 58))]
def f71r23 : LA := [.mk none (.mov 2 (.v (.k (.c (.bool false)))))]
def f71b24 : AQ := (.seq (.region f71r23) .ret)
def f71b25 : AQ := (.cond (.t 57) f71b24 .skip)
def f71r26 : LA := [.mk none (.mov 55 (.t 4)), .mk none (.lenS 56 (.t 55)), .mk none (.bin 57 .neq (.t 56) (.v (.k (.c (.int .i64 16)))))]
def f71b27 : AQ := (.seq (.region f71r26) f71b25)
def f71r28 : LA := [.mk none (.iaddr 53 1 (.t 49) (.t 51)), .mk none (.load 54 1 false (.t 53)), .mk none (.mov 4 (.t 54))]
def f71b29 : AQ := (.seq (.region f71r28) f71b27)
def f71b30 : AQ := (.block 1 f71b29)
def f71b31 : AQ := (.seq f71b30 (.region f71r22))
def f71b32 : AQ := (.cond (.t 52) .skip (.exit 0))
def f71b33 : AQ := (.seq f71b32 f71b31)
def f71r34 : LA := [.mk none (.bin 52 .lss (.t 51) (.t 50))]
def f71b35 : AQ := (.seq (.region f71r34) f71b33)
def f71l36 : AQ := .loop [1, 49, 50, 51] [1] f71b35
theorem zg0 (P ts os Q) : awl P f71l36 Q ts os = awl P (.loop [1, 49, 50, 51] [1] f71b35) Q ts os := id rfl
def f71b37 : AQ := (.block 0 f71l36)
def f71r38 : LA := [.mk none (.faddr 48 0 (.t 1)), .mk none (.load 49 1 false (.t 48)), .mk none (.len 50 (.t 49)), .mk none (.mov 51 (.v (.k (.c (.int .i64 0)))))]
def f71b39 : AQ := (.seq (.region f71r38) f71b37)
def f71b40 : AQ := (.seq f71b39 f71b21)
def f71r41 : LA := [.mk none (.mov 2 (.v (.k (.c (.bool false)))))]
def f71b42 : AQ := (.seq (.region f71r41) .ret)
def f71b43 : AQ := (.cond (.t 47) f71b42 .skip)
def f71r44 : LA := [.mk none (.faddr 7 0 (.t 1)), .mk none (.load 8 1 false (.t 7)), .mk none (.len 9 (.t 8)), .mk none (.bin 10 .lss (.t 9) (.v (.k (.c (.int .i64 1))))), .mk none (.mov 11 (.t 10)), .mk (some (11, false)) (.faddr 12 0 (.t 1)), .mk (some (11, false)) (.load 13 1 false (.t 12)), .mk (some (11, false)) (.len 14 (.t 13)), .mk (some (11, false)) (.bin 15 .gtr (.t 14) (.v (.k (.c (.int .i64 512))))), .mk none (.pick 16 (.t 11) (.v (.k (.c (.bool true)))) (.t 15)), .mk none (.mov 17 (.t 16)), .mk (some (17, false)) (.faddr 18 1 (.t 1)), .mk (some (17, false)) (.load 19 1 false (.t 18)), .mk (some (17, false)) (.len 20 (.t 19)), .mk (some (17, false)) (.bin 21 .gtr (.t 20) (.v (.k (.c (.int .i64 512))))), .mk none (.pick 22 (.t 17) (.v (.k (.c (.bool true)))) (.t 21)), .mk none (.mov 23 (.t 22)), .mk (some (23, false)) (.faddr 24 2 (.t 1)), .mk (some (23, false)) (.load 25 1 false (.t 24)), .mk (some (23, false)) (.bin 26 .lss (.t 25) (.v (.k (.c (.int .i64 (-1)))))), .mk none (.pick 27 (.t 23) (.v (.k (.c (.bool true)))) (.t 26)), .mk none (.mov 28 (.t 27)), .mk (some (28, false)) (.faddr 29 2 (.t 1)), .mk (some (28, false)) (.load 30 1 false (.t 29)), .mk (some (28, false)) (.bin 31 .gtr (.t 30) (.v (.k (.c (.int .i64 512))))), .mk none (.pick 32 (.t 28) (.v (.k (.c (.bool true)))) (.t 31)), .mk none (.mov 33 (.t 32)), .mk (some (33, false)) (.faddr 34 3 (.t 1)), .mk (some (33, false)) (.load 35 1 false (.t 34)), .mk (some (33, false)) (.mov 36 (.t 35)), .mk (some (36, true)) (.faddr 37 1 (.t 1)), .mk (some (36, true)) (.load 38 1 false (.t 37)), .mk (some (36, true)) (.len 39 (.t 38)), .mk (some (36, true)) (.bin 40 .gtr (.t 39) (.v (.k (.c (.int .i64 0))))), .mk (some (36, true)) (.mov 41 (.t 40)), .mk (some (41, false)) (.faddr 42 2 (.t 1)), .mk (some (41, false)) (.load 43 1 false (.t 42)), .mk (some (41, false)) (.bin 44 .neq (.t 43) (.v (.k (.c (.int .i64 (-1)))))), .mk (some (36, true)) (.pick 45 (.t 41) (.v (.k (.c (.bool true)))) (.t 44)), .mk (some (33, false)) (.pick 46 (.t 36) (.t 45) (.v (.k (.c (.bool false))))), .mk none (.pick 47 (.t 33) (.v (.k (.c (.bool true)))) (.t 46))]
def f71b45 : AQ := (.seq (.region f71r44) f71b43)
def f71b46 : AQ := (.seq f71b45 f71b40)
def f71r47 : LA := [.mk none (.box 1 25 (.t 0)), .mk none (.mov 2 (.v (.k (.c (.bool false)))))]
def f71b48 : AQ := (.seq (.region f71r47) f71b46)
def f71 : AQ := f71b48
theorem hf71 : zG Tryz.prog 71 = some ⟨84, f71.erase, [(RX.t 2)]⟩ := by kernel_rfl
theorem okf71 : f71.ok = true := by kernel_rfl
def f72r1 : LA := [.mk none (.mov 20 (.t 5)), .mk none (.mov 21 (.t 6)), .mk none (.mov 2 (.t 20)), .mk none (.mov 3 (.t 21)), .mk none (.mov 4 (.v (.k (.c (.bool true)))))]
def f72b2 : AQ := (.seq (.region f72r1) .ret)
def f72r3 : LA := [.mk none (.mov 2 (.v (.k (.c (.int .i64 0))))), .mk none (.mov 3 (.v (.k (.c (.str []))))), .mk none (.mov 4 (.v (.k (.c (.bool false)))))]
def f72b4 : AQ := (.seq (.region f72r3) .ret)
def f72b5 : AQ := (.cond (.t 19) f72b4 .skip)
def f72r6 : LA := [.mk none (.mov 14 (.t 7)), .mk none (.un 15 .not (.t 14)), .mk none (.mov 16 (.t 15)), .mk (some (16, false)) (.mov 17 (.t 5)), .mk (some (16, false)) (.bin 18 .lss (.t 17) (.v (.k (.c (.int .i64 0))))), .mk none (.pick 19 (.t 16) (.v (.k (.c (.bool true)))) (.t 18))]
def f72b7 : AQ := (.seq (.region f72r6) f72b5)
def f72b8 : AQ := (.seq f72b7 f72b2)
def f72r9 : LA := [.mk none (.mov 9 (.t 0)), .mk none (.call (some 10) 93 [(.t 9)]), .mk none (.mov 8 (.t 10)), .mk none (.extr 11 (.t 8) 0), .mk none (.extr 12 (.t 8) 1), .mk none (.extr 13 (.t 8) 2), .mk none (.mov 5 (.t 11)), .mk none (.mov 6 (.t 12)), .mk none (.mov 7 (.t 13))]
def f72b10 : AQ := (.seq (.region f72r9) f72b8)
def f72r11 : LA := [.mk none (.mov 2 (.v (.k (.c (.int .i64 0))))), .mk none (.mov 3 (.v (.k (.c (.str []))))), .mk none (.mov 4 (.v (.k (.c (.bool false)))))]
def f72b12 : AQ := (.seq (.region f72r11) f72b10)
def f72 : AQ := f72b12
theorem hf72 : zG Tryz.prog 72 = some ⟨22, f72.erase, [(RX.t 2), (RX.t 3), (RX.t 4)]⟩ := by kernel_rfl
theorem okf72 : f72.ok = true := by kernel_rfl
def f73r1 : LA := [.mk none (.mov 5 (.t 0)), .mk none (.mov 6 (.t 1)), .mk none (.call (some 7) 94 [(.t 5), (.t 6)]), .mk none (.bin 8 .geq (.t 7) (.v (.k (.c (.int .i64 0))))), .mk none (.mov 4 (.t 8))]
def f73b2 : AQ := (.seq (.region f73r1) .ret)
def f73r3 : LA := [.mk none (.mov 4 (.v (.k (.c (.bool false)))))]
def f73b4 : AQ := (.seq (.region f73r3) f73b2)
def f73 : AQ := f73b4
theorem hf73 : zG Tryz.prog 73 = some ⟨9, f73.erase, [(RX.t 4)]⟩ := by kernel_rfl
theorem okf73 : f73.ok = true := by kernel_rfl
def f74r1 : LA := [.mk none (.mov 3 (.t 0)), .mk none (.len 4 (.t 3)), .mk none (.bin 5 .gtr (.t 4) (.v (.k (.c (.int .i64 500))))), .mk none (.mov 2 (.t 5))]
def f74b2 : AQ := (.seq (.region f74r1) .ret)
def f74r3 : LA := [.mk none (.mov 2 (.v (.k (.c (.bool false)))))]
def f74b4 : AQ := (.seq (.region f74r3) f74b2)
def f74 : AQ := f74b4
theorem hf74 : zG Tryz.prog 74 = some ⟨6, f74.erase, [(RX.t 2)]⟩ := by kernel_rfl
theorem okf74 : f74.ok = true := by kernel_rfl
def f78r1 : LA := [.mk none (.mov 28 (.t 8)), .mk none (.mov 29 (.t 9)), .mk none (.mov 4 (.t 28)), .mk none (.mov 5 (.t 29))]
def f78b2 : AQ := (.seq (.region f78r1) .ret)
def f78r3 : LA := [.mk none (.mov 23 (.t 0)), .mk none (.mov 24 (.t 1)), .mk none (.call (some 25) 107 [(.t 23), (.t 24)]), .mk none (.mov 22 (.t 25)), .mk none (.extr 26 (.t 22) 0), .mk none (.extr 27 (.t 22) 1), .mk none (.mov 8 (.t 26)), .mk none (.mov 9 (.t 27))]
def f78b4 : AQ := (.seq (.region f78r3) f78b2)
def f78r5 : LA := [.mk none (.mov 18 (.t 6)), .mk none (.conv 19 .u64 (.t 18)), .mk none (.mov 20 (.t 7)), .mk none (.conv 21 .u64 (.t 20)), .mk none (.mov 4 (.t 19)), .mk none (.mov 5 (.t 21))]
def f78b6 : AQ := (.seq (.region f78r5) .ret)
def f78r7 : LA := [.mk none (.mov 11 (.t 0)), .mk none (.conv 12 .u32 (.t 11)), .mk none (.mov 13 (.t 1)), .mk none (.conv 14 .u32 (.t 13)), .mk none (.call (some 15) 106 [(.t 12), (.t 14)]), .mk none (.mov 10 (.t 15)), .mk none (.extr 16 (.t 10) 0), .mk none (.extr 17 (.t 10) 1), .mk none (.mov 6 (.t 16)), .mk none (.mov 7 (.t 17))]
def f78b8 : AQ := (.seq (.region f78r7) f78b6)
def f78b9 : AQ := (.cond (.v (.k (.c (.bool false)))) f78b8 .skip)
def f78b10 : AQ := (.seq f78b9 f78b4)
def f78r11 : LA := [.mk none (.mov 4 (.v (.k (.c (.int .u64 0))))), .mk none (.mov 5 (.v (.k (.c (.int .u64 0)))))]
def f78b12 : AQ := (.seq (.region f78r11) f78b10)
def f78 : AQ := f78b12
theorem hf78 : zG Tryz.prog 78 = some ⟨30, f78.erase, [(RX.t 4), (RX.t 5)]⟩ := by kernel_rfl
theorem okf78 : f78.ok = true := by kernel_rfl
def f79r1 : LA := [.mk none (.mov 5 (.t 0)), .mk none (.mov 6 (.t 1)), .mk none (.call (some 7) 108 [(.t 5), (.t 6)]), .mk none (.mov 4 (.t 7))]
def f79b2 : AQ := (.seq (.region f79r1) .ret)
def f79r3 : LA := [.mk none (.mov 4 (.v (.k (.c (.bool false)))))]
def f79b4 : AQ := (.seq (.region f79r3) f79b2)
def f79 : AQ := f79b4
theorem hf79 : zG Tryz.prog 79 = some ⟨8, f79.erase, [(RX.t 4)]⟩ := by kernel_rfl
theorem okf79 : f79.ok = true := by kernel_rfl
def f84r1 : LA := [.mk none (.mov 2 (.v (.k (.c (.int .i64 0)))))]
def f84b2 : AQ := (.seq (.region f84r1) .ret)
def f84r3 : LA := [.mk none (.mov 2 (.v (.k (.c (.int .i64 1)))))]
def f84b4 : AQ := (.seq (.region f84r3) .ret)
def f84b5 : AQ := (.cond (.t 5) f84b4 .skip)
def f84r6 : LA := [.mk none (.load 3 4 true (.t 1)), .mk none (.call (some 4) 71 [(.t 3)]), .mk none (.un 5 .not (.t 4))]
def f84b7 : AQ := (.seq (.region f84r6) f84b5)
def f84b8 : AQ := (.seq f84b7 f84b2)
def f84r9 : LA := [.mk none (.box 1 25 (.t 0)), .mk none (.mov 2 (.v (.k (.c (.int .i64 0)))))]
def f84b10 : AQ := (.seq (.region f84r9) f84b8)
def f84 : AQ := f84b10
theorem hf84 : zG Tryz.prog 84 = some ⟨6, f84.erase, [(RX.t 2)]⟩ := by kernel_rfl
theorem okf84 : f84.ok = true := by kernel_rfl
def f85r1 : LA := [.mk none (.load 6 4 true (.t 1)), .mk none (.store 4 (.t 2) (.t 6))]
def f85b2 : AQ := (.seq (.region f85r1) .ret)
def f85r3 : LA := [.mk none (.faddr 3 1 (.t 1)), .mk none (.store 1 (.t 3) (.v (.k (.c (.list 0 (some true) []))))), .mk none (.faddr 4 2 (.t 1)), .mk none (.store 1 (.t 4) (.v (.k (.c (.int .i64 (-1)))))), .mk none (.faddr 5 3 (.t 1)), .mk none (.store 1 (.t 5) (.v (.k (.c (.bool true)))))]
def f85b4 : AQ := (.seq (.region f85r3) f85b2)
def f85r5 : LA := [.mk none (.box 1 25 (.t 0)), .mk none (.alloc 2 25 [(.list 0 (some true) []), (.list 0 (some true) []), (.int .i64 0), (.bool false)])]
def f85b6 : AQ := (.seq (.region f85r5) f85b4)
def f85 : AQ := f85b6
theorem hf85 : zG Tryz.prog 85 = some ⟨7, f85.erase, [(RX.cell 2 4 true)]⟩ := by kernel_rfl
theorem okf85 : f85.ok = true := by kernel_rfl
def f86r1 : LA := [.mk none (.mov 12 (.t 3)), .mk none (.mov 2 (.t 12))]
def f86b2 : AQ := (.seq (.region f86r1) .ret)
def f86r3 : LA := [.mk none (.mov 2 (.v (.k (.c (.int .i64 8)))))]
def f86b4 : AQ := (.seq (.region f86r3) .ret)
def f86b5 : AQ := (.cond (.t 11) f86b4 .skip)
def f86r6 : LA := [.mk none (.mov 6 (.t 3)), .mk none (.bin 7 .eql (.t 6) (.v (.k (.c (.int .i64 0))))), .mk none (.mov 8 (.t 7)), .mk (some (8, true)) (.faddr 9 3 (.t 1)), .mk (some (8, true)) (.load 10 1 false (.t 9)), .mk none (.pick 11 (.t 8) (.t 10) (.v (.k (.c (.bool false)))))]
def f86b7 : AQ := (.seq (.region f86r6) f86b5)
def f86b8 : AQ := (.seq f86b7 f86b2)
def f86r9 : LA := [.mk none (.load 4 4 true (.t 1)), .mk none (.call (some 5) 42 [(.t 4)]), .mk none (.mov 3 (.t 5))]
def f86b10 : AQ := (.seq (.region f86r9) f86b8)
def f86r11 : LA := [.mk none (.box 1 25 (.t 0)), .mk none (.mov 2 (.v (.k (.c (.int .i64 0)))))]
def f86b12 : AQ := (.seq (.region f86r11) f86b10)
def f86 : AQ := f86b12
theorem hf86 : zG Tryz.prog 86 = some ⟨13, f86.erase, [(RX.t 2)]⟩ := by kernel_rfl
theorem okf86 : f86.ok = true := by kernel_rfl
def f87r1 : LA := [.mk none (.mov 43 (.t 5)), .mk none (.mov 4 (.t 43))]
def f87b2 : AQ := (.seq (.region f87r1) .ret)
def f87r3 : LA := [.mk none (.mov 27 (.t 7)), .mk none (.bin 28 .add (.t 27) (.v (.k (.c (.int .i64 1))))), .mk none (.mov 7 (.t 28))]
def f87r4 : LA := [.mk none (.mov 29 (.t 5)), .mk none (.faddr 30 1 (.t 2)), .mk none (.load 31 1 false (.t 30)), .mk none (.mov 32 (.t 7)), .mk none (.iaddr 33 2 (.t 31) (.t 32)), .mk none (.faddr 34 0 (.t 33)), .mk none (.load 35 1 false (.t 34)), .mk none (.faddr 36 1 (.t 2)), .mk none (.load 37 1 false (.t 36)), .mk none (.mov 38 (.t 7)), .mk none (.iaddr 39 2 (.t 37) (.t 38)), .mk none (.faddr 40 1 (.t 39)), .mk none (.load 41 1 false (.t 40)), .mk none (.iaddr 42 1 (.t 29) (.t 35)), .mk none (.store 1 (.t 42) (.t 41))]
def f87b5 : AQ := (.block 3 (.draw f87r4 [[], [], [1], [], [2, 3], [4], [5], [], [7], [], [8, 9], [10], [11], [0, 6, 0, 1, 2, 3, 4, 5, 6, 7, 8, 9, 10, 11, 12], [13, 12, 0, 1, 2, 3, 4, 5, 6, 7, 8, 9, 10, 11, 12]]))
def f87b6 : AQ := (.seq f87b5 (.region f87r3))
def f87b7 : AQ := (.cond (.t 26) .skip (.exit 2))
def f87r8 : LA := [.mk none (.mov 24 (.t 7)), .mk none (.mov 25 (.t 1)), .mk none (.bin 26 .lss (.t 24) (.t 25))]
def f87b9 : AQ := (.seq (.region f87r8) f87b7)
def f87b10 : AQ := (.seq f87b9 f87b6)
def f87l11 : AQ := .loop [1, 2, 5, 7] [2, 8, 23] f87b10
theorem zlH (P ts os Q) : awl P f87l11 Q ts os = awl P (.loop [1, 2, 5, 7] [2, 8, 23] f87b10) Q ts os := id rfl
def f87b12 : AQ := (.block 2 f87l11)
def f87r13 : LA := [.mk none (.mov 7 (.v (.k (.c (.int .i64 0)))))]
def f87b14 : AQ := (.seq (.region f87r13) f87b12)
def f87b15 : AQ := (.seq f87b14 f87b2)
def f87r16 : LA := [.mk none (.mov 14 (.t 6)), .mk none (.bin 15 .add (.t 14) (.v (.k (.c (.int .i64 1))))), .mk none (.mov 6 (.t 15))]
def f87r17 : LA := [.mk none (.mov 16 (.t 5)), .mk none (.faddr 17 0 (.t 2)), .mk none (.load 18 1 false (.t 17)), .mk none (.mov 19 (.t 6)), .mk none (.iaddr 20 1 (.t 18) (.t 19)), .mk none (.load 21 1 false (.t 20)), .mk none (.bslice 22 9 1 [(.str [])] 1 [(0, (.t 21))]), .mk none (.append 23 9 1 16 (.t 16) (.t 22)), .mk none (.mov 5 (.t 23))]
def f87b18 : AQ := (.block 1 (.region f87r17))
def f87b19 : AQ := (.seq f87b18 (.region f87r16))
def f87b20 : AQ := (.cond (.t 13) .skip (.exit 0))
def f87r21 : LA := [.mk none (.mov 9 (.t 6)), .mk none (.faddr 10 0 (.t 2)), .mk none (.load 11 1 false (.t 10)), .mk none (.len 12 (.t 11)), .mk none (.bin 13 .lss (.t 9) (.t 12))]
def f87b22 : AQ := (.seq (.region f87r21) f87b20)
def f87b23 : AQ := (.seq f87b22 f87b19)
def f87l24 : AQ := .loop [1, 2, 5, 6] [2, 8, 23] f87b23
theorem zlI (P ts os Q) : awl P f87l24 Q ts os = awl P (.loop [1, 2, 5, 6] [2, 8, 23] f87b23) Q ts os := id rfl
def f87b25 : AQ := (.block 0 f87l24)
def f87r26 : LA := [.mk none (.mov 6 (.v (.k (.c (.int .i64 0)))))]
def f87b27 : AQ := (.seq (.region f87r26) f87b25)
def f87b28 : AQ := (.seq f87b27 f87b15)
def f87r29 : LA := [.mk none (.bslice 8 9 1 [(.str [])] 0 []), .mk none (.mov 5 (.t 8))]
def f87b30 : AQ := (.seq (.region f87r29) f87b28)
def f87r31 : LA := [.mk none (.box 2 25 (.t 0)), .mk none (.nilL 4 9 1)]
def f87b32 : AQ := (.seq (.region f87r31) f87b30)
def f87 : AQ := f87b32
theorem hf87 : zG Tryz.prog 87 = some ⟨44, f87.erase, [(RX.t 4)]⟩ := by kernel_rfl
theorem okf87 : f87.ok = true := by kernel_rfl
def f88r1 : LA := [.mk none (.mov 33 (.t 4)), .mk none (.mov 2 (.t 33)), .mk none (.mov 3 (.v (.k (.c (.bool true)))))]
def f88b2 : AQ := (.seq (.region f88r1) .ret)
def f88r3 : LA := [.mk none (.bin 32 .add (.t 11) (.v (.k (.c (.int .i64 1))))), .mk none (.mov 11 (.t 32))]
def f88r4 : LA := [.mk none (.mov 24 (.t 4)), .mk none (.bin 25 .mul (.v (.k (.c (.int .i64 10)))) (.t 24)), .mk none (.mov 26 (.t 0)), .mk none (.mov 27 (.t 5)), .mk none (.sidx 28 (.t 26) (.t 27)), .mk none (.bin 29 .sub (.t 28) (.v (.k (.c (.int .u8 48))))), .mk none (.conv 30 .i64 (.t 29)), .mk none (.bin 31 .add (.t 25) (.t 30)), .mk none (.mov 4 (.t 31))]
def f88r5 : LA := [.mk none (.mov 2 (.v (.k (.c (.int .i64 0))))), .mk none (.mov 3 (.v (.k (.c (.bool false)))))]
def f88b6 : AQ := (.seq (.region f88r5) .ret)
def f88b7 : AQ := (.cond (.t 23) f88b6 .skip)
def f88r8 : LA := [.mk none (.mov 14 (.t 0)), .mk none (.mov 15 (.t 5)), .mk none (.sidx 16 (.t 14) (.t 15)), .mk none (.bin 17 .lss (.t 16) (.v (.k (.c (.int .u8 48))))), .mk none (.mov 18 (.t 17)), .mk (some (18, false)) (.mov 19 (.t 0)), .mk (some (18, false)) (.mov 20 (.t 5)), .mk (some (18, false)) (.sidx 21 (.t 19) (.t 20)), .mk (some (18, false)) (.bin 22 .gtr (.t 21) (.v (.k (.c (.int .u8 57))))), .mk none (.pick 23 (.t 18) (.v (.k (.c (.bool true)))) (.t 22))]
def f88b9 : AQ := (.seq (.region f88r8) f88b7)
def f88b10 : AQ := (.seq f88b9 (.region f88r4))
def f88r11 : LA := [.mk none (.mov 13 (.t 11)), .mk none (.mov 5 (.t 13))]
def f88b12 : AQ := (.seq (.region f88r11) f88b10)
def f88b13 : AQ := (.block 1 f88b12)
def f88b14 : AQ := (.seq f88b13 (.region f88r3))
def f88b15 : AQ := (.cond (.t 12) .skip (.exit 0))
def f88b16 : AQ := (.seq f88b15 f88b14)
def f88r17 : LA := [.mk none (.bin 12 .lss (.t 11) (.v (.k (.c (.int .i64 8)))))]
def f88b18 : AQ := (.seq (.region f88r17) f88b16)
def f88l19 : AQ := .loop [0, 4, 11] [] f88b18
theorem zlJ (P ts os Q) : awl P f88l19 Q ts os = awl P (.loop [0, 4, 11] [] f88b18) Q ts os := id rfl
def f88b20 : AQ := (.block 0 f88l19)
def f88r21 : LA := [.mk none (.mov 11 (.v (.k (.c (.int .i64 0)))))]
def f88b22 : AQ := (.seq (.region f88r21) f88b20)
def f88b23 : AQ := (.seq f88b22 f88b2)
def f88r24 : LA := [.mk none (.mov 4 (.v (.k (.c (.int .i64 0)))))]
def f88b25 : AQ := (.seq (.region f88r24) f88b23)
def f88r26 : LA := [.mk none (.mov 2 (.v (.k (.c (.int .i64 0))))), .mk none (.mov 3 (.v (.k (.c (.bool false)))))]
def f88b27 : AQ := (.seq (.region f88r26) .ret)
def f88b28 : AQ := (.cond (.t 10) f88b27 .skip)
def f88r29 : LA := [.mk none (.mov 6 (.t 0)), .mk none (.slstr 7 (.t 6) none (some (.v (.k (.c (.int .i64 8)))))), .mk none (.mov 8 (.t 0)), .mk none (.slstr 9 (.t 8) (some (.v (.k (.c (.int .i64 8))))) none), .mk none (.bin 10 .neq (.t 7) (.t 9))]
def f88b30 : AQ := (.seq (.draw f88r29 [[], [0], [], [2], [1, 3]]) f88b28)
def f88b31 : AQ := (.seq f88b30 f88b25)
def f88r32 : LA := [.mk none (.mov 2 (.v (.k (.c (.int .i64 0))))), .mk none (.mov 3 (.v (.k (.c (.bool false)))))]
def f88b33 : AQ := (.seq (.region f88r32) f88b31)
def f88 : AQ := f88b33
theorem hf88 : zG Tryz.prog 88 = some ⟨34, f88.erase, [(RX.t 2), (RX.t 3)]⟩ := by kernel_rfl
theorem okf88 : f88.ok = true := by kernel_rfl
def f90r1 : LA := [.mk none (.mov 24 (.t 3)), .mk none (.mov 25 (.t 5)), .mk none (.slstr 26 (.t 24) none (some (.t 25))), .mk none (.mov 27 (.t 3)), .mk none (.mov 28 (.t 5)), .mk none (.slstr 29 (.t 27) (some (.t 28)) none), .mk none (.mov 2 (.t 26)), .mk none (.mov 3 (.t 29)), .mk none (.mov 4 (.v (.k (.c (.bool true)))))]
def f90b2 : AQ := (.seq (.draw f90r1 [[], [], [0, 1], [], [], [3, 4], [2, 0, 1, 2], [5, 6, 0, 1, 2, 3, 4, 5, 6], [7, 0, 1, 2, 3, 4, 5, 6, 7]]) .ret)
def f90r3 : LA := [.mk none (.mov 2 (.v (.k (.c (.str []))))), .mk none (.mov 3 (.v (.k (.c (.str []))))), .mk none (.mov 4 (.v (.k (.c (.bool false)))))]
def f90b4 : AQ := (.seq (.region f90r3) .ret)
def f90b5 : AQ := (.cond (.t 23) f90b4 .skip)
def f90r6 : LA := [.mk none (.mov 12 (.t 4)), .mk none (.un 13 .not (.t 12)), .mk none (.mov 14 (.t 13)), .mk (some (14, false)) (.mov 15 (.t 5)), .mk (some (14, false)) (.bin 16 .lss (.t 15) (.v (.k (.c (.int .i64 0))))), .mk none (.pick 17 (.t 14) (.v (.k (.c (.bool true)))) (.t 16)), .mk none (.mov 18 (.t 17)), .mk (some (18, false)) (.mov 19 (.t 5)), .mk (some (18, false)) (.mov 20 (.t 3)), .mk (some (18, false)) (.lenS 21 (.t 20)), .mk (some (18, false)) (.bin 22 .gtr (.t 19) (.t 21)), .mk none (.pick 23 (.t 18) (.v (.k (.c (.bool true)))) (.t 22))]
def f90b7 : AQ := (.seq (.region f90r6) f90b5)
def f90b8 : AQ := (.seq f90b7 f90b2)
def f90r9 : LA := [.mk none (.mov 7 (.t 0)), .mk none (.call (some 8) 111 [(.t 7)]), .mk none (.mov 6 (.t 8)), .mk none (.extr 9 (.t 6) 0), .mk none (.extr 10 (.t 6) 1), .mk none (.extr 11 (.t 6) 2), .mk none (.mov 5 (.t 9)), .mk none (.mov 3 (.t 10)), .mk none (.mov 4 (.t 11))]
def f90b10 : AQ := (.seq (.region f90r9) f90b8)
def f90r11 : LA := [.mk none (.mov 2 (.v (.k (.c (.str []))))), .mk none (.mov 3 (.v (.k (.c (.str []))))), .mk none (.mov 4 (.v (.k (.c (.bool false)))))]
def f90b12 : AQ := (.seq (.region f90r11) f90b10)
def f90 : AQ := f90b12
theorem hf90 : zG Tryz.prog 90 = some ⟨30, f90.erase, [(RX.t 2), (RX.t 3), (RX.t 4)]⟩ := by kernel_rfl
theorem okf90 : f90.ok = true := by kernel_rfl
def f91r1 : LA := [.mk none (.mov 3 (.t 0)), .mk none (.call (some 4) 112 [(.t 3)]), .mk none (.bin 5 .add (.t 4) (.v (.k (.c (.str [59]))))), .mk none (.mov 2 (.t 5))]
def f91b2 : AQ := (.seq (.region f91r1) .ret)
def f91r3 : LA := [.mk none (.mov 2 (.v (.k (.c (.str [])))))]
def f91b4 : AQ := (.seq (.region f91r3) f91b2)
def f91 : AQ := f91b4
theorem hf91 : zG Tryz.prog 91 = some ⟨6, f91.erase, [(RX.t 2)]⟩ := by kernel_rfl
theorem okf91 : f91.ok = true := by kernel_rfl
def f92r1 : LA := [.mk none (.mov 34 (.t 3)), .mk none (.mov 2 (.t 34))]
def f92b2 : AQ := (.seq (.region f92r1) .ret)
def f92r3 : LA := [.mk none (.mov 32 (.t 3)), .mk none (.bin 33 .add (.v (.k (.c (.str [45])))) (.t 32)), .mk none (.mov 3 (.t 33))]
def f92b4 : AQ := (.cond (.t 31) (.region f92r3) .skip)
def f92r5 : LA := [.mk none (.mov 30 (.t 0)), .mk none (.bin 31 .lss (.t 30) (.v (.k (.c (.int .i64 0)))))]
def f92b6 : AQ := (.seq (.region f92r5) f92b4)
def f92b7 : AQ := (.seq f92b6 f92b2)
def f92r8 : LA := [.mk none (.mov 14 (.t 5)), .mk none (.bin 15 .add (.t 14) (.v (.k (.c (.int .i64 1))))), .mk none (.mov 5 (.t 15))]
def f92r9 : LA := [.mk none (.mov 28 (.t 4)), .mk none (.bin 29 .quo (.t 28) (.v (.k (.c (.int .i64 10))))), .mk none (.mov 4 (.t 29))]
def f92r10 : LA := [.mk none (.mov 22 (.t 6)), .mk none (.mov 23 (.t 6)), .mk none (.bin 24 .add (.t 23) (.v (.k (.c (.int .i64 1))))), .mk none (.slstr 25 (.v (.k (.c (.str [48, 49, 50, 51, 52, 53, 54, 55, 56, 57])))) (some (.t 22)) (some (.t 24))), .mk none (.mov 26 (.t 3)), .mk none (.bin 27 .add (.t 25) (.t 26)), .mk none (.mov 3 (.t 27))]
def f92b11 : AQ := (.seq (.region f92r10) (.region f92r9))
def f92r12 : LA := [.mk none (.mov 20 (.t 6)), .mk none (.un 21 .neg (.t 20)), .mk none (.mov 6 (.t 21))]
def f92b13 : AQ := (.cond (.t 19) (.region f92r12) .skip)
def f92r14 : LA := [.mk none (.mov 18 (.t 6)), .mk none (.bin 19 .lss (.t 18) (.v (.k (.c (.int .i64 0)))))]
def f92b15 : AQ := (.seq (.region f92r14) f92b13)
def f92b16 : AQ := (.seq f92b15 f92b11)
def f92r17 : LA := [.mk none (.mov 16 (.t 4)), .mk none (.bin 17 .rem (.t 16) (.v (.k (.c (.int .i64 10))))), .mk none (.mov 6 (.t 17))]
def f92b18 : AQ := (.seq (.region f92r17) f92b16)
def f92b19 : AQ := (.block 1 f92b18)
def f92b20 : AQ := (.seq f92b19 (.region f92r8))
def f92b21 : AQ := (.cond (.t 13) .skip (.exit 0))
def f92r22 : LA := [.mk none (.mov 8 (.t 5)), .mk none (.bin 9 .eql (.t 8) (.v (.k (.c (.int .i64 0))))), .mk none (.mov 10 (.t 9)), .mk (some (10, false)) (.mov 11 (.t 4)), .mk (some (10, false)) (.bin 12 .neq (.t 11) (.v (.k (.c (.int .i64 0))))), .mk none (.pick 13 (.t 10) (.v (.k (.c (.bool true)))) (.t 12))]
def f92b23 : AQ := (.seq (.region f92r22) f92b21)
def f92b24 : AQ := (.seq f92b23 f92b20)
def f92l25 : AQ := .loop [0, 3, 4, 5] [] f92b24
theorem zlK (P ts os Q) : awl P f92l25 Q ts os = awl P (.loop [0, 3, 4, 5] [] f92b24) Q ts os := id rfl
def f92b26 : AQ := (.block 0 f92l25)
def f92r27 : LA := [.mk none (.mov 5 (.v (.k (.c (.int .i64 0)))))]
def f92b28 : AQ := (.seq (.region f92r27) f92b26)
def f92b29 : AQ := (.seq f92b28 f92b7)
def f92r30 : LA := [.mk none (.mov 7 (.t 0)), .mk none (.mov 4 (.t 7))]
def f92b31 : AQ := (.seq (.region f92r30) f92b29)
def f92r32 : LA := [.mk none (.mov 3 (.v (.k (.c (.str [59])))))]
def f92b33 : AQ := (.seq (.region f92r32) f92b31)
def f92r34 : LA := [.mk none (.mov 2 (.v (.k (.c (.str [])))))]
def f92b35 : AQ := (.seq (.region f92r34) f92b33)
def f92 : AQ := f92b35
theorem hf92 : zG Tryz.prog 92 = some ⟨35, f92.erase, [(RX.t 2)]⟩ := by kernel_rfl
theorem okf92 : f92.ok = true := by kernel_rfl
def f93r1 : LA := [.mk none (.mov 99 (.t 7)), .mk none (.un 100 .neg (.t 99)), .mk none (.mov 101 (.t 9)), .mk none (.mov 2 (.t 100)), .mk none (.mov 3 (.t 101)), .mk none (.mov 4 (.v (.k (.c (.bool true)))))]
def f93b2 : AQ := (.seq (.region f93r1) .ret)
def f93r3 : LA := [.mk none (.mov 2 (.v (.k (.c (.int .i64 0))))), .mk none (.mov 3 (.v (.k (.c (.str []))))), .mk none (.mov 4 (.v (.k (.c (.bool false)))))]
def f93b4 : AQ := (.seq (.region f93r3) .ret)
def f93b5 : AQ := (.cond (.t 98) f93b4 .skip)
def f93r6 : LA := [.mk none (.mov 97 (.t 7)), .mk none (.bin 98 .eql (.t 97) (.v (.k (.c (.int .i64 (-9223372036854775808))))))]
def f93b7 : AQ := (.seq (.region f93r6) f93b5)
def f93b8 : AQ := (.seq f93b7 f93b2)
def f93r9 : LA := [.mk none (.mov 95 (.t 7)), .mk none (.mov 96 (.t 9)), .mk none (.mov 2 (.t 95)), .mk none (.mov 3 (.t 96)), .mk none (.mov 4 (.v (.k (.c (.bool true)))))]
def f93b10 : AQ := (.seq (.region f93r9) .ret)
def f93b11 : AQ := (.cond (.t 94) f93b10 .skip)
def f93r12 : LA := [.mk none (.mov 93 (.t 5)), .mk none (.bin 94 .eql (.t 93) (.v (.k (.c (.int .i64 1)))))]
def f93b13 : AQ := (.seq (.region f93r12) f93b11)
def f93b14 : AQ := (.seq f93b13 f93b8)
def f93r15 : LA := [.mk none (.mov 2 (.v (.k (.c (.int .i64 0))))), .mk none (.mov 3 (.v (.k (.c (.str []))))), .mk none (.mov 4 (.v (.k (.c (.bool false)))))]
def f93b16 : AQ := (.seq (.region f93r15) .ret)
def f93b17 : AQ := (.cond (.t 92) f93b16 .skip)
def f93r18 : LA := [.mk none (.mov 87 (.t 5)), .mk none (.bin 88 .eql (.t 87) (.v (.k (.c (.int .i64 1))))), .mk none (.mov 89 (.t 88)), .mk (some (89, true)) (.mov 90 (.t 7)), .mk (some (89, true)) (.bin 91 .eql (.t 90) (.v (.k (.c (.int .i64 0))))), .mk none (.pick 92 (.t 89) (.t 91) (.v (.k (.c (.bool false)))))]
def f93b19 : AQ := (.seq (.region f93r18) f93b17)
def f93b20 : AQ := (.seq f93b19 f93b14)
def f93r21 : LA := [.mk none (.mov 83 (.t 0)), .mk none (.mov 84 (.t 6)), .mk none (.bin 85 .add (.t 84) (.v (.k (.c (.int .i64 1))))), .mk none (.slstr 86 (.t 83) (some (.t 85)) none), .mk none (.mov 9 (.t 86))]
def f93b22 : AQ := (.seq (.region f93r21) f93b20)
def f93r23 : LA := [.mk none (.mov 2 (.v (.k (.c (.int .i64 0))))), .mk none (.mov 3 (.v (.k (.c (.str []))))), .mk none (.mov 4 (.v (.k (.c (.bool false)))))]
def f93b24 : AQ := (.seq (.region f93r23) .ret)
def f93b25 : AQ := (.cond (.t 82) f93b24 .skip)
def f93r26 : LA := [.mk none (.mov 56 (.t 6)), .mk none (.mov 57 (.t 5)), .mk none (.bin 58 .eql (.t 56) (.t 57)), .mk none (.mov 59 (.t 58)), .mk (some (59, false)) (.mov 60 (.t 6)), .mk (some (59, false)) (.mov 61 (.t 0)), .mk (some (59, false)) (.lenS 62 (.t 61)), .mk (some (59, false)) (.bin 63 .geq (.t 60) (.t 62)), .mk none (.pick 64 (.t 59) (.v (.k (.c (.bool true)))) (.t 63)), .mk none (.mov 65 (.t 64)), .mk (some (65, false)) (.mov 66 (.t 0)), .mk (some (65, false)) (.mov 67 (.t 6)), .mk (some (65, false)) (.sidx 68 (.t 66) (.t 67)), .mk (some (65, false)) (.bin 69 .neq (.t 68) (.v (.k (.c (.int .u8 59))))), .mk none (.pick 70 (.t 65) (.v (.k (.c (.bool true)))) (.t 69)), .mk none (.mov 71 (.t 70)), .mk (some (71, false)) (.mov 72 (.t 6)), .mk (some (71, false)) (.mov 73 (.t 5)), .mk (some (71, false)) (.bin 74 .add (.t 73) (.v (.k (.c (.int .i64 1))))), .mk (some (71, false)) (.bin 75 .gtr (.t 72) (.t 74)), .mk (some (71, false)) (.mov 76 (.t 75)), .mk (some (76, true)) (.mov 77 (.t 0)), .mk (some (76, true)) (.mov 78 (.t 5)), .mk (some (76, true)) (.sidx 79 (.t 77) (.t 78)), .mk (some (76, true)) (.bin 80 .eql (.t 79) (.v (.k (.c (.int .u8 48))))), .mk (some (71, false)) (.pick 81 (.t 76) (.t 80) (.v (.k (.c (.bool false))))), .mk none (.pick 82 (.t 71) (.v (.k (.c (.bool true)))) (.t 81))]
def f93b27 : AQ := (.seq (.region f93r26) f93b25)
def f93b28 : AQ := (.seq f93b27 f93b22)
def f93r29 : LA := [.mk none (.mov 54 (.t 6)), .mk none (.bin 55 .add (.t 54) (.v (.k (.c (.int .i64 1))))), .mk none (.mov 6 (.t 55))]
def f93r30 : LA := [.mk none (.mov 50 (.t 7)), .mk none (.bin 51 .mul (.v (.k (.c (.int .i64 10)))) (.t 50)), .mk none (.mov 52 (.t 8)), .mk none (.bin 53 .sub (.t 51) (.t 52)), .mk none (.mov 7 (.t 53))]
def f93b31 : AQ := (.seq (.region f93r30) (.region f93r29))
def f93r32 : LA := [.mk none (.mov 2 (.v (.k (.c (.int .i64 0))))), .mk none (.mov 3 (.v (.k (.c (.str []))))), .mk none (.mov 4 (.v (.k (.c (.bool false)))))]
def f93b33 : AQ := (.seq (.region f93r32) .ret)
def f93b34 : AQ := (.cond (.t 49) f93b33 .skip)
def f93r35 : LA := [.mk none (.mov 40 (.t 7)), .mk none (.bin 41 .lss (.t 40) (.v (.k (.c (.int .i64 (-922337203685477580)))))), .mk none (.mov 42 (.t 41)), .mk (some (42, false)) (.mov 43 (.t 7)), .mk (some (42, false)) (.bin 44 .eql (.t 43) (.v (.k (.c (.int .i64 (-922337203685477580)))))), .mk (some (42, false)) (.mov 45 (.t 44)), .mk (some (45, true)) (.mov 46 (.t 8)), .mk (some (45, true)) (.bin 47 .gtr (.t 46) (.v (.k (.c (.int .i64 8))))), .mk (some (42, false)) (.pick 48 (.t 45) (.t 47) (.v (.k (.c (.bool false))))), .mk none (.pick 49 (.t 42) (.v (.k (.c (.bool true)))) (.t 48))]
def f93b36 : AQ := (.seq (.region f93r35) f93b34)
def f93b37 : AQ := (.seq f93b36 f93b31)
def f93r38 : LA := [.mk none (.mov 35 (.t 0)), .mk none (.mov 36 (.t 6)), .mk none (.sidx 37 (.t 35) (.t 36)), .mk none (.conv 38 .i64 (.t 37)), .mk none (.bin 39 .sub (.t 38) (.v (.k (.c (.int .i64 48))))), .mk none (.mov 8 (.t 39))]
def f93b39 : AQ := (.seq (.region f93r38) f93b37)
def f93b40 : AQ := (.block 1 f93b39)
def f93b41 : AQ := (.cond (.t 34) .skip (.exit 0))
def f93r42 : LA := [.mk none (.mov 19 (.t 6)), .mk none (.mov 20 (.t 0)), .mk none (.lenS 21 (.t 20)), .mk none (.bin 22 .lss (.t 19) (.t 21)), .mk none (.mov 23 (.t 22)), .mk (some (23, true)) (.mov 24 (.t 0)), .mk (some (23, true)) (.mov 25 (.t 6)), .mk (some (23, true)) (.sidx 26 (.t 24) (.t 25)), .mk (some (23, true)) (.bin 27 .geq (.t 26) (.v (.k (.c (.int .u8 48))))), .mk none (.pick 28 (.t 23) (.t 27) (.v (.k (.c (.bool false))))), .mk none (.mov 29 (.t 28)), .mk (some (29, true)) (.mov 30 (.t 0)), .mk (some (29, true)) (.mov 31 (.t 6)), .mk (some (29, true)) (.sidx 32 (.t 30) (.t 31)), .mk (some (29, true)) (.bin 33 .leq (.t 32) (.v (.k (.c (.int .u8 57))))), .mk none (.pick 34 (.t 29) (.t 33) (.v (.k (.c (.bool false)))))]
def f93b43 : AQ := (.seq (.region f93r42) f93b41)
def f93b44 : AQ := (.seq f93b43 f93b40)
def f93l45 : AQ := .loop [0, 5, 6, 7] [] f93b44
theorem zlL (P ts os Q) : awl P f93l45 Q ts os = awl P (.loop [0, 5, 6, 7] [] f93b44) Q ts os := id rfl
def f93b46 : AQ := (.block 0 f93l45)
def f93b47 : AQ := (.seq f93b46 f93b28)
def f93r48 : LA := [.mk none (.mov 7 (.v (.k (.c (.int .i64 0)))))]
def f93b49 : AQ := (.seq (.region f93r48) f93b47)
def f93r50 : LA := [.mk none (.mov 18 (.t 5)), .mk none (.mov 6 (.t 18))]
def f93b51 : AQ := (.seq (.region f93r50) f93b49)
def f93r52 : LA := [.mk none (.mov 5 (.v (.k (.c (.int .i64 1)))))]
def f93b53 : AQ := (.cond (.t 17) (.region f93r52) .skip)
def f93r54 : LA := [.mk none (.mov 10 (.t 0)), .mk none (.lenS 11 (.t 10)), .mk none (.bin 12 .gtr (.t 11) (.v (.k (.c (.int .i64 0))))), .mk none (.mov 13 (.t 12)), .mk (some (13, true)) (.mov 14 (.t 0)), .mk (some (13, true)) (.sidx 15 (.t 14) (.v (.k (.c (.int .i64 0))))), .mk (some (13, true)) (.bin 16 .eql (.t 15) (.v (.k (.c (.int .u8 45))))), .mk none (.pick 17 (.t 13) (.t 16) (.v (.k (.c (.bool false)))))]
def f93b55 : AQ := (.seq (.region f93r54) f93b53)
def f93b56 : AQ := (.seq f93b55 f93b51)
def f93r57 : LA := [.mk none (.mov 5 (.v (.k (.c (.int .i64 0)))))]
def f93b58 : AQ := (.seq (.region f93r57) f93b56)
def f93r59 : LA := [.mk none (.mov 2 (.v (.k (.c (.int .i64 0))))), .mk none (.mov 3 (.v (.k (.c (.str []))))), .mk none (.mov 4 (.v (.k (.c (.bool false)))))]
def f93b60 : AQ := (.seq (.region f93r59) f93b58)
def f93 : AQ := f93b60
theorem hf93 : zG Tryz.prog 93 = some ⟨102, f93.erase, [(RX.t 2), (RX.t 3), (RX.t 4)]⟩ := by kernel_rfl
theorem okf93 : f93.ok = true := by kernel_rfl
def f94r1 : LA := [.mk none (.mov 4 (.v (.k (.c (.int .i64 (-1))))))]
def f94b2 : AQ := (.seq (.region f94r1) .ret)
def f94r3 : LA := [.mk none (.bin 18 .add (.t 8) (.v (.k (.c (.int .i64 1))))), .mk none (.mov 8 (.t 18))]
def f94r4 : LA := [.mk none (.mov 17 (.t 5)), .mk none (.mov 4 (.t 17))]
def f94b5 : AQ := (.seq (.region f94r4) .ret)
def f94b6 : AQ := (.cond (.t 16) f94b5 .skip)
def f94r7 : LA := [.mk none (.mov 11 (.t 1)), .mk none (.mov 12 (.t 0)), .mk none (.mov 13 (.t 5)), .mk none (.iaddr 14 1 (.t 12) (.t 13)), .mk none (.load 15 1 false (.t 14)), .mk none (.callv (some 16) (.t 11) [(.t 15)])]
def f94b8 : AQ := (.seq (.region f94r7) f94b6)
def f94r9 : LA := [.mk none (.mov 10 (.t 8)), .mk none (.mov 5 (.t 10))]
def f94b10 : AQ := (.seq (.region f94r9) f94b8)
def f94b11 : AQ := (.block 1 f94b10)
def f94b12 : AQ := (.seq f94b11 (.region f94r3))
def f94b13 : AQ := (.cond (.t 9) .skip (.exit 0))
def f94b14 : AQ := (.seq f94b13 f94b12)
def f94r15 : LA := [.mk none (.bin 9 .lss (.t 8) (.t 7))]
def f94b16 : AQ := (.seq (.region f94r15) f94b14)
def f94l17 : AQ := .loop [0, 1, 7, 8] [] f94b16
theorem zlM (P ts os Q) : awl P f94l17 Q ts os = awl P (.loop [0, 1, 7, 8] [] f94b16) Q ts os := id rfl
def f94b18 : AQ := (.block 0 f94l17)
def f94r19 : LA := [.mk none (.mov 6 (.t 0)), .mk none (.len 7 (.t 6)), .mk none (.mov 8 (.v (.k (.c (.int .i64 0)))))]
def f94b20 : AQ := (.seq (.region f94r19) f94b18)
def f94b21 : AQ := (.seq f94b20 f94b2)
def f94r22 : LA := [.mk none (.mov 4 (.v (.k (.c (.int .i64 0)))))]
def f94b23 : AQ := (.seq (.region f94r22) f94b21)
def f94 : AQ := f94b23
theorem hf94 : zG Tryz.prog 94 = some ⟨19, f94.erase, [(RX.t 4)]⟩ := by kernel_rfl
theorem okf94 : f94.ok = true := by kernel_rfl
def f107r1 : LA := [.mk none (.mov 48 (.t 0)), .mk none (.mov 49 (.t 1)), .mk none (.bin 50 .mul (.t 48) (.t 49)), .mk none (.mov 5 (.t 50))]
def f107b2 : AQ := (.seq (.region f107r1) .ret)
def f107r3 : LA := [.mk none (.mov 40 (.t 7)), .mk none (.mov 41 (.t 9)), .mk none (.bin 42 .mul (.t 40) (.t 41)), .mk none (.mov 43 (.t 13)), .mk none (.bin 44 .add (.t 42) (.t 43)), .mk none (.mov 45 (.t 12)), .mk none (.bin 46 .shr (.t 45) (.v (.k (.c (.int .u64 32))))), .mk none (.bin 47 .add (.t 44) (.t 46)), .mk none (.mov 4 (.t 47))]
def f107b4 : AQ := (.seq (.region f107r3) f107b2)
def f107r5 : LA := [.mk none (.mov 35 (.t 12)), .mk none (.mov 36 (.t 6)), .mk none (.mov 37 (.t 9)), .mk none (.bin 38 .mul (.t 36) (.t 37)), .mk none (.bin 39 .add (.t 35) (.t 38)), .mk none (.mov 12 (.t 39))]
def f107b6 : AQ := (.seq (.region f107r5) f107b4)
def f107r7 : LA := [.mk none (.mov 33 (.t 11)), .mk none (.bin 34 .shr (.t 33) (.v (.k (.c (.int .u64 32))))), .mk none (.mov 13 (.t 34))]
def f107b8 : AQ := (.seq (.region f107r7) f107b6)
def f107r9 : LA := [.mk none (.mov 31 (.t 11)), .mk none (.bin 32 .and (.t 31) (.v (.k (.c (.int .u64 4294967295))))), .mk none (.mov 12 (.t 32))]
def f107b10 : AQ := (.seq (.region f107r9) f107b8)
def f107r11 : LA := [.mk none (.mov 25 (.t 7)), .mk none (.mov 26 (.t 8)), .mk none (.bin 27 .mul (.t 25) (.t 26)), .mk none (.mov 28 (.t 10)), .mk none (.bin 29 .shr (.t 28) (.v (.k (.c (.int .u64 32))))), .mk none (.bin 30 .add (.t 27) (.t 29)), .mk none (.mov 11 (.t 30))]
def f107b12 : AQ := (.seq (.region f107r11) f107b10)
def f107r13 : LA := [.mk none (.mov 22 (.t 6)), .mk none (.mov 23 (.t 8)), .mk none (.bin 24 .mul (.t 22) (.t 23)), .mk none (.mov 10 (.t 24))]
def f107b14 : AQ := (.seq (.region f107r13) f107b12)
def f107r15 : LA := [.mk none (.mov 20 (.t 1)), .mk none (.bin 21 .shr (.t 20) (.v (.k (.c (.int .u64 32))))), .mk none (.mov 9 (.t 21))]
def f107b16 : AQ := (.seq (.region f107r15) f107b14)
def f107r17 : LA := [.mk none (.mov 18 (.t 1)), .mk none (.bin 19 .and (.t 18) (.v (.k (.c (.int .u64 4294967295))))), .mk none (.mov 8 (.t 19))]
def f107b18 : AQ := (.seq (.region f107r17) f107b16)
def f107r19 : LA := [.mk none (.mov 16 (.t 0)), .mk none (.bin 17 .shr (.t 16) (.v (.k (.c (.int .u64 32))))), .mk none (.mov 7 (.t 17))]
def f107b20 : AQ := (.seq (.region f107r19) f107b18)
def f107r21 : LA := [.mk none (.mov 14 (.t 0)), .mk none (.bin 15 .and (.t 14) (.v (.k (.c (.int .u64 4294967295))))), .mk none (.mov 6 (.t 15))]
def f107b22 : AQ := (.seq (.region f107r21) f107b20)
def f107r23 : LA := [.mk none (.mov 4 (.v (.k (.c (.int .u64 0))))), .mk none (.mov 5 (.v (.k (.c (.int .u64 0)))))]
def f107b24 : AQ := (.seq (.region f107r23) f107b22)
def f107 : AQ := f107b24
theorem hf107 : zG Tryz.prog 107 = some ⟨51, f107.erase, [(RX.t 4), (RX.t 5)]⟩ := by kernel_rfl
theorem okf107 : f107.ok = true := by kernel_rfl
def f108r1 : LA := [.mk none (.mov 5 (.t 0)), .mk none (.lenS 6 (.t 5)), .mk none (.mov 7 (.t 1)), .mk none (.lenS 8 (.t 7)), .mk none (.bin 9 .geq (.t 6) (.t 8)), .mk none (.mov 10 (.t 9)), .mk (some (10, true)) (.mov 11 (.t 0)), .mk (some (10, true)) (.mov 12 (.t 1)), .mk (some (10, true)) (.lenS 13 (.t 12)), .mk (some (10, true)) (.slstr 14 (.t 11) none (some (.t 13))), .mk (some (10, true)) (.mov 15 (.t 1)), .mk (some (10, true)) (.bin 16 .eql (.t 14) (.t 15)), .mk none (.pick 17 (.t 10) (.t 16) (.v (.k (.c (.bool false))))), .mk none (.mov 4 (.t 17))]
def f108b2 : AQ := (.seq (.region f108r1) .ret)
def f108r3 : LA := [.mk none (.mov 4 (.v (.k (.c (.bool false)))))]
def f108b4 : AQ := (.seq (.region f108r3) f108b2)
def f108 : AQ := f108b4
theorem hf108 : zG Tryz.prog 108 = some ⟨18, f108.erase, [(RX.t 4)]⟩ := by kernel_rfl
theorem okf108 : f108.ok = true := by kernel_rfl
def f3r1 : LA := [.mk none (.mov 167 (.t 9)), .mk none (.mov 168 (.t 167)), .mk (some (168, true)) (.mov 169 (.t 11)), .mk (some (168, true)) (.mov 170 (.t 13)), .mk (some (168, true)) (.bin 171 .eql (.t 169) (.t 170)), .mk none (.pick 172 (.t 168) (.t 171) (.v (.k (.c (.bool false))))), .mk none (.mov 173 (.t 172)), .mk (some (173, true)) (.mov 174 (.t 18)), .mk (some (173, true)) (.mov 175 (.t 19)), .mk (some (173, true)) (.bin 176 .eql (.t 174) (.t 175)), .mk none (.pick 177 (.t 173) (.t 176) (.v (.k (.c (.bool false))))), .mk none (.mov 178 (.t 177)), .mk (some (178, true)) (.load 179 4 true (.t 10)), .mk (some (178, true)) (.load 180 4 true (.t 12)), .mk (some (178, true)) (.call (some 181) 13 [(.t 179), (.t 180)]), .mk none (.pick 182 (.t 178) (.t 181) (.v (.k (.c (.bool false))))), .mk none (.mov 8 (.t 182))]
def f3b2 : AQ := (.seq (.region f3r1) .ret)
def f3r3o0 : AI := .mk none (.load 159 4 true (.t 4))
def f3r3o1 : AI := .mk none (.mov 160 (.t 2))
def f3r3o2 : AI := .mk none (.iaddr 161 1 (.t 160) (.v (.k (.c (.int .i64 0)))))
def f3r3o3 : AI := .mk none (.load 162 1 false (.t 161))
def f3r3o4 : AI := .mk none (.call (some 163) 26 [(.t 159), (.t 162)])
def f3r3o5 : AI := .mk none (.mov 158 (.t 163))
def f3r3o6 : AI := .mk none (.extr 164 (.t 158) 0)
def f3r3o7 : AI := .mk none (.extr 165 (.t 158) 1)
def f3r3o8 : AI := .mk none (.extr 166 (.t 158) 2)
def f3r3o9 : AI := .mk none (.store 4 (.t 12) (.t 164))
def f3r3o10 : AI := .mk none (.mov 19 (.t 165))
def f3r3o11 : AI := .mk none (.mov 13 (.t 166))
def f3r3 : LA := [f3r3o0, f3r3o1, f3r3o2, f3r3o3, f3r3o4, f3r3o5, f3r3o6, f3r3o7, f3r3o8, f3r3o9, f3r3o10, f3r3o11]
theorem zlN : xY f3r3 [[], [], [1], [2], [0, 3], [4], [5], [5], [5], [6, 4, 0, 1, 2, 3, 4, 5, 6], [7, 9, 0, 1, 2, 3, 4, 5, 6, 7, 9], [8, 10, 0, 1, 2, 3, 4, 5, 6, 7, 8, 9, 10]] = (.one f3r3o0 (.one f3r3o1 (.one f3r3o2 (.one f3r3o3 (.one f3r3o4 (.one f3r3o5 (.one f3r3o6 (.alt (.one f3r3o7 (.alt (.one f3r3o8 (.one f3r3o9 (.one f3r3o10 (.one f3r3o11 .done)))) (.alt (.one f3r3o9 (.one f3r3o8 (.one f3r3o10 (.one f3r3o11 .done)))) .top))) (.alt (.one f3r3o8 (.alt (.one f3r3o7 (.one f3r3o9 (.one f3r3o10 (.one f3r3o11 .done)))) (.alt (.one f3r3o9 (.one f3r3o7 (.one f3r3o10 (.one f3r3o11 .done)))) .top))) (.alt (.one f3r3o9 (.one f3r3o7 (.one f3r3o8 (.one f3r3o10 (.one f3r3o11 .done))))) .top)))))))))) := by kernel_rfl
def f3b4 : AQ := (.seq (.tree f3r3 [[], [], [1], [2], [0, 3], [4], [5], [5], [5], [6, 4, 0, 1, 2, 3, 4, 5, 6], [7, 9, 0, 1, 2, 3, 4, 5, 6, 7, 9], [8, 10, 0, 1, 2, 3, 4, 5, 6, 7, 8, 9, 10]]) (.keep [9, 10, 11, 12, 13, 18, 19] [10, 12, 45, 50, 65, 71, 85, 90, 154, 163, 46000, 46001, 46002, 51000, 51001, 51002, 66000, 66001, 66002, 72000, 72001, 72002, 86000, 86001, 86002, 91000, 91001, 91002, 155000, 155001, 155002, 164000, 164001, 164002] f3b2))
def f3r5o0 : AI := .mk none (.load 150 4 true (.t 4))
def f3r5o1 : AI := .mk none (.mov 151 (.t 2))
def f3r5o2 : AI := .mk none (.iaddr 152 1 (.t 151) (.v (.k (.c (.int .i64 0)))))
def f3r5o3 : AI := .mk none (.load 153 1 false (.t 152))
def f3r5o4 : AI := .mk none (.call (some 154) 25 [(.t 150), (.t 153)])
def f3r5o5 : AI := .mk none (.mov 149 (.t 154))
def f3r5o6 : AI := .mk none (.extr 155 (.t 149) 0)
def f3r5o7 : AI := .mk none (.extr 156 (.t 149) 1)
def f3r5o8 : AI := .mk none (.extr 157 (.t 149) 2)
def f3r5o9 : AI := .mk none (.store 4 (.t 10) (.t 155))
def f3r5o10 : AI := .mk none (.mov 18 (.t 156))
def f3r5o11 : AI := .mk none (.mov 11 (.t 157))
def f3r5 : LA := [f3r5o0, f3r5o1, f3r5o2, f3r5o3, f3r5o4, f3r5o5, f3r5o6, f3r5o7, f3r5o8, f3r5o9, f3r5o10, f3r5o11]
theorem zlO : xY f3r5 [[], [], [1], [2], [0, 3], [4], [5], [5], [5], [6, 4, 0, 1, 2, 3, 4, 5, 6], [7, 9, 0, 1, 2, 3, 4, 5, 6, 7, 9], [8, 10, 0, 1, 2, 3, 4, 5, 6, 7, 8, 9, 10]] = (.one f3r5o0 (.one f3r5o1 (.one f3r5o2 (.one f3r5o3 (.one f3r5o4 (.one f3r5o5 (.one f3r5o6 (.alt (.one f3r5o7 (.alt (.one f3r5o8 (.one f3r5o9 (.one f3r5o10 (.one f3r5o11 .done)))) (.alt (.one f3r5o9 (.one f3r5o8 (.one f3r5o10 (.one f3r5o11 .done)))) .top))) (.alt (.one f3r5o8 (.alt (.one f3r5o7 (.one f3r5o9 (.one f3r5o10 (.one f3r5o11 .done)))) (.alt (.one f3r5o9 (.one f3r5o7 (.one f3r5o10 (.one f3r5o11 .done)))) .top))) (.alt (.one f3r5o9 (.one f3r5o7 (.one f3r5o8 (.one f3r5o10 (.one f3r5o11 .done))))) .top)))))))))) := by kernel_rfl
def f3b6 : AQ := (.seq (.tree f3r5 [[], [], [1], [2], [0, 3], [4], [5], [5], [5], [6, 4, 0, 1, 2, 3, 4, 5, 6], [7, 9, 0, 1, 2, 3, 4, 5, 6, 7, 9], [8, 10, 0, 1, 2, 3, 4, 5, 6, 7, 8, 9, 10]]) (.keep [2, 4, 9, 10, 11, 12, 18] [4, 10, 12, 45, 50, 65, 71, 85, 90, 154, 163, 46000, 46001, 46002, 51000, 51001, 51002, 66000, 66001, 66002, 72000, 72001, 72002, 86000, 86001, 86002, 91000, 91001, 91002, 155000, 155001, 155002, 164000, 164001, 164002] f3b4))
def f3r7 : LA := [.mk none (.mov 148 (.t 9)), .mk none (.mov 8 (.t 148))]
def f3b8 : AQ := (.seq (.region f3r7) .ret)
def f3b9 : AQ := (.cond (.t 147) f3b8 .skip)
def f3r10 : LA := [.mk none (.mov 143 (.t 2)), .mk none (.iaddr 144 1 (.t 143) (.v (.k (.c (.int .i64 0))))), .mk none (.load 145 1 false (.t 144)), .mk none (.len 146 (.t 145)), .mk none (.bin 147 .gtr (.t 146) (.v (.k (.c (.int .i64 20)))))]
def f3b11 : AQ := (.seq (.region f3r10) f3b9)
def f3b12 : AQ := (.seq f3b11 f3b6)
def f3r13 : LA := [.mk none (.mov 142 (.t 9)), .mk none (.mov 8 (.t 142))]
def f3b14 : AQ := (.seq (.region f3r13) .ret)
def f3b15 : AQ := (.cond (.t 141) f3b14 .skip)
def f3r16 : LA := [.mk none (.mov 139 (.t 2)), .mk none (.len 140 (.t 139)), .mk none (.bin 141 .eql (.t 140) (.v (.k (.c (.int .i64 0)))))]
def f3b17 : AQ := (.seq (.region f3r16) f3b15)
def f3b18 : AQ := (.seq f3b17 f3b12)
def f3r19 : LA := [.mk none (.mov 8 (.v (.k (.c (.bool false)))))]
def f3b20 : AQ := (.seq (.region f3r19) .ret)
def f3b21 : AQ := (.cond (.t 138) f3b20 .skip)
def f3r22 : LA := [.mk none (.mov 112 (.t 15)), .mk none (.mov 113 (.t 17)), .mk none (.bin 114 .neq (.t 112) (.t 113)), .mk none (.mov 115 (.t 114)), .mk (some (115, false)) (.mov 116 (.t 14)), .mk (some (115, false)) (.mov 117 (.t 16)), .mk (some (115, false)) (.call (some 118) 20 [(.t 116), (.t 117)]), .mk (some (115, false)) (.un 119 .not (.t 118)), .mk none (.pick 120 (.t 115) (.v (.k (.c (.bool true)))) (.t 119)), .mk none (.mov 121 (.t 120)), .mk (some (121, false)) (.mov 122 (.t 2)), .mk (some (121, false)) (.call (some 123) 21 [(.t 122)]), .mk (some (121, false)) (.mov 124 (.t 2)), .mk (some (121, false)) (.call (some 125) 22 [(.t 124)]), .mk (some (121, false)) (.call (some 126) 20 [(.t 123), (.t 125)]), .mk (some (121, false)) (.un 127 .not (.t 126)), .mk none (.pick 128 (.t 121) (.v (.k (.c (.bool true)))) (.t 127)), .mk none (.mov 129 (.t 128)), .mk (some (129, false)) (.mov 130 (.t 2)), .mk (some (129, false)) (.mov 131 (.t 3)), .mk (some (129, false)) (.call (some 132) 23 [(.t 130), (.t 131)]), .mk (some (129, false)) (.mov 133 (.t 2)), .mk (some (129, false)) (.mov 134 (.t 3)), .mk (some (129, false)) (.call (some 135) 24 [(.t 133), (.t 134)]), .mk (some (129, false)) (.call (some 136) 20 [(.t 132), (.t 135)]), .mk (some (129, false)) (.un 137 .not (.t 136)), .mk none (.pick 138 (.t 129) (.v (.k (.c (.bool true)))) (.t 137))]
def f3b23 : AQ := (.seq (.region f3r22) f3b21)
def f3b24 : AQ := (.seq f3b23 f3b18)
def f3r25 : LA := [.mk none (.load 108 4 true (.t 4)), .mk none (.call (some 109) 19 [(.t 108)]), .mk none (.mov 107 (.t 109)), .mk none (.extr 110 (.t 107) 0), .mk none (.extr 111 (.t 107) 1), .mk none (.mov 16 (.t 110)), .mk none (.mov 17 (.t 111))]
def f3b26 : AQ := (.seq (.region f3r25) f3b24)
def f3r27 : LA := [.mk none (.load 103 4 true (.t 4)), .mk none (.call (some 104) 18 [(.t 103)]), .mk none (.mov 102 (.t 104)), .mk none (.extr 105 (.t 102) 0), .mk none (.extr 106 (.t 102) 1), .mk none (.mov 14 (.t 105)), .mk none (.mov 15 (.t 106))]
def f3b28 : AQ := (.seq (.region f3r27) f3b26)
def f3r29 : LA := [.mk none (.mov 8 (.v (.k (.c (.bool false)))))]
def f3b30 : AQ := (.seq (.region f3r29) .ret)
def f3b31 : AQ := (.cond (.t 101) f3b30 .skip)
def f3r32 : LA := [.mk none (.mov 93 (.t 11)), .mk none (.mov 94 (.t 13)), .mk none (.bin 95 .neq (.t 93) (.t 94)), .mk none (.mov 96 (.t 95)), .mk (some (96, false)) (.load 97 4 true (.t 10)), .mk (some (96, false)) (.load 98 4 true (.t 12)), .mk (some (96, false)) (.call (some 99) 13 [(.t 97), (.t 98)]), .mk (some (96, false)) (.un 100 .not (.t 99)), .mk none (.pick 101 (.t 96) (.v (.k (.c (.bool true)))) (.t 100))]
def f3b33 : AQ := (.seq (.region f3r32) f3b31)
def f3b34 : AQ := (.seq f3b33 f3b28)
def f3r35 : LA := [.mk none (.load 89 4 true (.t 4)), .mk none (.call (some 90) 17 [(.t 89)]), .mk none (.mov 88 (.t 90)), .mk none (.extr 91 (.t 88) 0), .mk none (.extr 92 (.t 88) 1), .mk none (.store 4 (.t 12) (.t 91)), .mk none (.mov 13 (.t 92))]
def f3b36 : AQ := (.seq (.region f3r35) f3b34)
def f3r37 : LA := [.mk none (.load 84 4 true (.t 4)), .mk none (.call (some 85) 16 [(.t 84)]), .mk none (.mov 83 (.t 85)), .mk none (.extr 86 (.t 83) 0), .mk none (.extr 87 (.t 83) 1), .mk none (.store 4 (.t 10) (.t 86)), .mk none (.mov 11 (.t 87))]
def f3b38 : AQ := (.seq (.region f3r37) f3b36)
def f3r39 : LA := [.mk none (.mov 8 (.v (.k (.c (.bool false)))))]
def f3b40 : AQ := (.seq (.region f3r39) .ret)
def f3b41 : AQ := (.cond (.t 82) f3b40 .skip)
def f3r42 : LA := [.mk none (.mov 74 (.t 11)), .mk none (.mov 75 (.t 13)), .mk none (.bin 76 .neq (.t 74) (.t 75)), .mk none (.mov 77 (.t 76)), .mk (some (77, false)) (.load 78 4 true (.t 10)), .mk (some (77, false)) (.load 79 4 true (.t 12)), .mk (some (77, false)) (.call (some 80) 13 [(.t 78), (.t 79)]), .mk (some (77, false)) (.un 81 .not (.t 80)), .mk none (.pick 82 (.t 77) (.v (.k (.c (.bool true)))) (.t 81))]
def f3b43 : AQ := (.seq (.region f3r42) f3b41)
def f3b44 : AQ := (.seq f3b43 f3b38)
def f3r45 : LA := [.mk none (.load 69 4 true (.t 4)), .mk none (.mov 70 (.t 1)), .mk none (.call (some 71) 15 [(.t 69), (.t 70)]), .mk none (.mov 68 (.t 71)), .mk none (.extr 72 (.t 68) 0), .mk none (.extr 73 (.t 68) 1), .mk none (.store 4 (.t 12) (.t 72)), .mk none (.mov 13 (.t 73))]
def f3b46 : AQ := (.seq (.region f3r45) f3b44)
def f3r47 : LA := [.mk none (.load 63 4 true (.t 4)), .mk none (.mov 64 (.t 1)), .mk none (.call (some 65) 14 [(.t 63), (.t 64)]), .mk none (.mov 62 (.t 65)), .mk none (.extr 66 (.t 62) 0), .mk none (.extr 67 (.t 62) 1), .mk none (.store 4 (.t 10) (.t 66)), .mk none (.mov 11 (.t 67))]
def f3b48 : AQ := (.seq (.region f3r47) f3b46)
def f3r49 : LA := [.mk none (.mov 8 (.v (.k (.c (.bool false)))))]
def f3b50 : AQ := (.seq (.region f3r49) .ret)
def f3b51 : AQ := (.cond (.t 61) f3b50 .skip)
def f3r52 : LA := [.mk none (.mov 53 (.t 11)), .mk none (.mov 54 (.t 13)), .mk none (.bin 55 .neq (.t 53) (.t 54)), .mk none (.mov 56 (.t 55)), .mk (some (56, false)) (.load 57 4 true (.t 10)), .mk (some (56, false)) (.load 58 4 true (.t 12)), .mk (some (56, false)) (.call (some 59) 13 [(.t 57), (.t 58)]), .mk (some (56, false)) (.un 60 .not (.t 59)), .mk none (.pick 61 (.t 56) (.v (.k (.c (.bool true)))) (.t 60))]
def f3b53 : AQ := (.seq (.region f3r52) f3b51)
def f3b54 : AQ := (.seq f3b53 f3b48)
def f3r55 : LA := [.mk none (.mov 49 (.t 3)), .mk none (.call (some 50) 12 [(.t 49)]), .mk none (.mov 48 (.t 50)), .mk none (.extr 51 (.t 48) 0), .mk none (.extr 52 (.t 48) 1), .mk none (.alloc 12 25 [(.list 0 (some true) []), (.list 0 (some true) []), (.int .i64 0), (.bool false)]), .mk none (.store 4 (.t 12) (.t 51)), .mk none (.mov 13 (.t 52))]
def f3b56 : AQ := (.seq (.region f3r55) f3b54)
def f3r57 : LA := [.mk none (.mov 44 (.t 3)), .mk none (.call (some 45) 11 [(.t 44)]), .mk none (.mov 43 (.t 45)), .mk none (.extr 46 (.t 43) 0), .mk none (.extr 47 (.t 43) 1), .mk none (.alloc 10 25 [(.list 0 (some true) []), (.list 0 (some true) []), (.int .i64 0), (.bool false)]), .mk none (.store 4 (.t 10) (.t 46)), .mk none (.mov 11 (.t 47))]
def f3b58 : AQ := (.seq (.region f3r57) f3b56)
def f3r59 : LA := [.mk none (.mov 42 (.t 9)), .mk none (.mov 8 (.t 42))]
def f3b60 : AQ := (.seq (.region f3r59) .ret)
def f3b61 : AQ := (.cond (.t 41) f3b60 .skip)
def f3r62 : LA := [.mk none (.load 21 4 true (.t 4)), .mk none (.call (some 22) 9 [(.t 21)]), .mk none (.un 23 .not (.t 22)), .mk none (.mov 24 (.t 23)), .mk (some (24, false)) (.mov 25 (.t 1)), .mk (some (24, false)) (.lenS 26 (.t 25)), .mk (some (24, false)) (.bin 27 .gtr (.t 26) (.v (.k (.c (.int .i64 100))))), .mk none (.pick 28 (.t 24) (.v (.k (.c (.bool true)))) (.t 27)), .mk none (.mov 29 (.t 28)), .mk (some (29, false)) (.mov 30 (.t 2)), .mk (some (29, false)) (.call (some 31) 10 [(.t 30)]), .mk (some (29, false)) (.un 32 .not (.t 31)), .mk none (.pick 33 (.t 29) (.v (.k (.c (.bool true)))) (.t 32)), .mk none (.mov 34 (.t 33)), .mk (some (34, false)) (.mov 35 (.t 3)), .mk (some (34, false)) (.bin 36 .gtr (.t 35) (.v (.k (.c (.int .i64 60))))), .mk (some (34, false)) (.mov 37 (.t 36)), .mk (some (37, true)) (.mov 38 (.t 3)), .mk (some (37, true)) (.bin 39 .leq (.t 38) (.v (.k (.c (.int .i64 512))))), .mk (some (34, false)) (.pick 40 (.t 37) (.t 39) (.v (.k (.c (.bool false))))), .mk none (.pick 41 (.t 34) (.v (.k (.c (.bool true)))) (.t 40))]
def f3b63 : AQ := (.seq (.region f3r62) f3b61)
def f3b64 : AQ := (.seq f3b63 f3b58)
def f3r65 : LA := [.mk none (.call (some 20) 8 []), .mk none (.mov 9 (.t 20))]
def f3b66 : AQ := (.seq (.region f3r65) f3b64)
def f3r67 : LA := [.mk none (.box 4 25 (.t 0)), .mk none (.mov 8 (.v (.k (.c (.bool false)))))]
def f3b68 : AQ := (.seq (.region f3r67) f3b66)
def f3 : AQ := f3b68
theorem hf3 : zG Tryz.prog 3 = some ⟨183, f3.erase, [(RX.t 8)]⟩ := by kernel_rfl
theorem okf3 : f3.ok = true := by kernel_rfl
def f8r1 : LA := [.mk none (.mov 129 (.t 20)), .mk none (.call (some 130) 21 [(.t 129)]), .mk none (.bslice 131 9 1 [(.str [])] 3 [(0, (.v (.k (.c (.str [97]))))), (1, (.v (.k (.c (.str [98]))))), (2, (.v (.k (.c (.str [99])))))]), .mk none (.call (some 132) 20 [(.t 130), (.t 131)]), .mk none (.mov 133 (.t 132)), .mk (some (133, true)) (.mov 134 (.t 20)), .mk (some (133, true)) (.call (some 135) 23 [(.t 134), (.v (.k (.c (.int .i64 1))))]), .mk (some (133, true)) (.bslice 136 9 1 [(.str [])] 2 [(0, (.v (.k (.c (.str [97]))))), (1, (.v (.k (.c (.str [99])))))]), .mk (some (133, true)) (.call (some 137) 20 [(.t 135), (.t 136)]), .mk none (.pick 138 (.t 133) (.t 137) (.v (.k (.c (.bool false))))), .mk none (.mov 0 (.t 138))]
def f8b2 : AQ := (.seq (.region f8r1) .ret)
def f8r3 : LA := [.mk none (.bslice 125 9 1 [(.str [])] 3 [(0, (.v (.k (.c (.str [97]))))), (1, (.v (.k (.c (.str [98]))))), (2, (.v (.k (.c (.str [99])))))]), .mk none (.bslice 126 9 1 [(.str [])] 2 [(0, (.v (.k (.c (.str [98]))))), (1, (.v (.k (.c (.str [100])))))]), .mk none (.bslice 127 9 1 [(.str [])] 3 [(0, (.v (.k (.c (.str [99]))))), (1, (.v (.k (.c (.str [98]))))), (2, (.v (.k (.c (.str [97])))))])]
def f8r4 : LA := [.mk none (.bslice 128 22 1 [(.list 0 (some true) [])] 3 [(0, (.t 125)), (1, (.t 126)), (2, (.t 127))]), .mk none (.mov 20 (.t 128))]
def f8b5 : AQ := (.seq (.regf f8r3 [125, 126, 127] f8r4) (.frz 128 f8b2))
def f8r6 : LA := [.mk none (.mov 0 (.v (.k (.c (.bool false)))))]
def f8b7 : AQ := (.seq (.region f8r6) .ret)
def f8b8 : AQ := (.cond (.t 124) f8b7 .skip)
def f8r9 : LA := [.mk none (.mov 105 (.t 13)), .mk none (.bin 106 .neq (.t 105) (.v (.k (.c (.int .i64 0))))), .mk none (.mov 107 (.t 106)), .mk (some (107, false)) (.mov 108 (.t 15)), .mk (some (107, false)) (.bin 109 .neq (.t 108) (.v (.k (.c (.int .i64 8))))), .mk none (.pick 110 (.t 107) (.v (.k (.c (.bool true)))) (.t 109)), .mk none (.mov 111 (.t 110)), .mk (some (111, false)) (.mov 112 (.t 17)), .mk (some (111, false)) (.bin 113 .neq (.t 112) (.v (.k (.c (.int .i64 0))))), .mk none (.pick 114 (.t 111) (.v (.k (.c (.bool true)))) (.t 113)), .mk none (.mov 115 (.t 114)), .mk (some (115, false)) (.mov 116 (.t 19)), .mk (some (115, false)) (.bin 117 .neq (.t 116) (.v (.k (.c (.int .i64 0))))), .mk none (.pick 118 (.t 115) (.v (.k (.c (.bool true)))) (.t 117)), .mk none (.mov 119 (.t 118)), .mk (some (119, false)) (.mov 120 (.t 18)), .mk (some (119, false)) (.bslice 121 9 1 [(.str [])] 1 [(0, (.v (.k (.c (.str [97])))))]), .mk (some (119, false)) (.call (some 122) 20 [(.t 120), (.t 121)]), .mk (some (119, false)) (.un 123 .not (.t 122)), .mk none (.pick 124 (.t 119) (.v (.k (.c (.bool true)))) (.t 123))]
def f8b10 : AQ := (.seq (.region f8r9) f8b8)
def f8b11 : AQ := (.seq f8b10 f8b5)
def f8r12 : LA := [.mk none (.load 101 4 true (.t 16)), .mk none (.call (some 102) 18 [(.t 101)]), .mk none (.mov 100 (.t 102)), .mk none (.extr 103 (.t 100) 0), .mk none (.extr 104 (.t 100) 1), .mk none (.mov 18 (.t 103)), .mk none (.mov 19 (.t 104))]
def f8b13 : AQ := (.seq (.region f8r12) f8b11)
def f8r14 : LA := [.mk none (.load 96 4 true (.t 14)), .mk none (.call (some 97) 16 [(.t 96)]), .mk none (.mov 95 (.t 97)), .mk none (.extr 98 (.t 95) 0), .mk none (.extr 99 (.t 95) 1), .mk none (.alloc 16 25 [(.list 0 (some true) []), (.list 0 (some true) []), (.int .i64 0), (.bool false)]), .mk none (.store 4 (.t 16) (.t 98)), .mk none (.mov 17 (.t 99))]
def f8b15 : AQ := (.seq (.region f8r14) f8b13)
def f8r16 : LA := [.mk none (.load 91 4 true (.t 12)), .mk none (.call (some 92) 14 [(.t 91), (.v (.k (.c (.str [98]))))]), .mk none (.mov 90 (.t 92)), .mk none (.extr 93 (.t 90) 0), .mk none (.extr 94 (.t 90) 1), .mk none (.alloc 14 25 [(.list 0 (some true) []), (.list 0 (some true) []), (.int .i64 0), (.bool false)]), .mk none (.store 4 (.t 14) (.t 93)), .mk none (.mov 15 (.t 94))]
def f8b17 : AQ := (.seq (.region f8r16) f8b15)
def f8r18 : LA := [.mk none (.load 86 4 true (.t 4)), .mk none (.call (some 87) 28 [(.t 86), (.v (.k (.c (.int .i64 1))))]), .mk none (.mov 85 (.t 87)), .mk none (.extr 88 (.t 85) 0), .mk none (.extr 89 (.t 85) 1), .mk none (.alloc 12 25 [(.list 0 (some true) []), (.list 0 (some true) []), (.int .i64 0), (.bool false)]), .mk none (.store 4 (.t 12) (.t 88)), .mk none (.mov 13 (.t 89))]
def f8b19 : AQ := (.seq (.region f8r18) f8b17)
def f8r20 : LA := [.mk none (.mov 0 (.v (.k (.c (.bool false)))))]
def f8b21 : AQ := (.seq (.region f8r20) .ret)
def f8b22 : AQ := (.cond (.t 84) f8b21 .skip)
def f8r23 : LA := [.mk none (.mov 53 (.t 2)), .mk none (.bin 54 .neq (.t 53) (.v (.k (.c (.int .i64 0))))), .mk none (.mov 55 (.t 54)), .mk (some (55, false)) (.mov 56 (.t 3)), .mk (some (55, false)) (.bin 57 .neq (.t 56) (.v (.k (.c (.int .i64 0))))), .mk none (.pick 58 (.t 55) (.v (.k (.c (.bool true)))) (.t 57)), .mk none (.mov 59 (.t 58)), .mk (some (59, false)) (.mov 60 (.t 5)), .mk (some (59, false)) (.bin 61 .neq (.t 60) (.v (.k (.c (.int .i64 0))))), .mk none (.pick 62 (.t 59) (.v (.k (.c (.bool true)))) (.t 61)), .mk none (.mov 63 (.t 62)), .mk (some (63, false)) (.mov 64 (.t 7)), .mk (some (63, false)) (.bin 65 .neq (.t 64) (.v (.k (.c (.int .i64 5))))), .mk none (.pick 66 (.t 63) (.v (.k (.c (.bool true)))) (.t 65)), .mk none (.mov 67 (.t 66)), .mk (some (67, false)) (.mov 68 (.t 9)), .mk (some (67, false)) (.bin 69 .neq (.t 68) (.v (.k (.c (.int .i64 0))))), .mk none (.pick 70 (.t 67) (.v (.k (.c (.bool true)))) (.t 69)), .mk none (.mov 71 (.t 70)), .mk (some (71, false)) (.mov 72 (.t 11)), .mk (some (71, false)) (.bin 73 .neq (.t 72) (.v (.k (.c (.int .i64 0))))), .mk none (.pick 74 (.t 71) (.v (.k (.c (.bool true)))) (.t 73)), .mk none (.mov 75 (.t 74)), .mk (some (75, false)) (.mov 76 (.t 8)), .mk (some (75, false)) (.bin 77 .neq (.t 76) (.v (.k (.c (.int .i64 2))))), .mk none (.pick 78 (.t 75) (.v (.k (.c (.bool true)))) (.t 77)), .mk none (.mov 79 (.t 78)), .mk (some (79, false)) (.mov 80 (.t 10)), .mk (some (79, false)) (.bslice 81 9 1 [(.str [])] 4 [(0, (.v (.k (.c (.str [97]))))), (1, (.v (.k (.c (.str [98]))))), (2, (.v (.k (.c (.str [99]))))), (3, (.v (.k (.c (.str [100])))))]), .mk (some (79, false)) (.call (some 82) 20 [(.t 80), (.t 81)]), .mk (some (79, false)) (.un 83 .not (.t 82)), .mk none (.pick 84 (.t 79) (.v (.k (.c (.bool true)))) (.t 83))]
def f8b24 : AQ := (.seq (.region f8r23) f8b22)
def f8b25 : AQ := (.seq f8b24 f8b19)
def f8r26 : LA := [.mk none (.load 49 4 true (.t 1)), .mk none (.call (some 50) 18 [(.t 49)]), .mk none (.mov 48 (.t 50)), .mk none (.extr 51 (.t 48) 0), .mk none (.extr 52 (.t 48) 1), .mk none (.mov 10 (.t 51)), .mk none (.mov 11 (.t 52))]
def f8b27 : AQ := (.seq (.region f8r26) f8b25)
def f8r28 : LA := [.mk none (.load 42 4 true (.t 1)), .mk none (.bslice 43 9 1 [(.str [])] 3 [(0, (.v (.k (.c (.str [98]))))), (1, (.v (.k (.c (.str [99]))))), (2, (.v (.k (.c (.str [100])))))]), .mk none (.call (some 44) 25 [(.t 42), (.t 43)]), .mk none (.mov 41 (.t 44)), .mk none (.extr 45 (.t 41) 0), .mk none (.extr 46 (.t 41) 1), .mk none (.extr 47 (.t 41) 2), .mk none (.store 4 (.t 1) (.t 45)), .mk none (.mov 8 (.t 46)), .mk none (.mov 9 (.t 47))]
def f8b29 : AQ := (.seq (.region f8r28) f8b27)
def f8r30 : LA := [.mk none (.load 37 4 true (.t 1)), .mk none (.call (some 38) 14 [(.t 37), (.v (.k (.c (.str [97]))))]), .mk none (.mov 36 (.t 38)), .mk none (.extr 39 (.t 36) 0), .mk none (.extr 40 (.t 36) 1), .mk none (.alloc 6 25 [(.list 0 (some true) []), (.list 0 (some true) []), (.int .i64 0), (.bool false)]), .mk none (.store 4 (.t 6) (.t 39)), .mk none (.mov 7 (.t 40))]
def f8b31 : AQ := (.seq (.region f8r30) f8b29)
def f8r32 : LA := [.mk none (.load 32 4 true (.t 1)), .mk none (.call (some 33) 14 [(.t 32), (.v (.k (.c (.str [98]))))]), .mk none (.mov 31 (.t 33)), .mk none (.extr 34 (.t 31) 0), .mk none (.extr 35 (.t 31) 1), .mk none (.store 4 (.t 1) (.t 34)), .mk none (.mov 5 (.t 35))]
def f8b33 : AQ := (.seq (.region f8r32) f8b31)
def f8r34 : LA := [.mk none (.load 30 4 true (.t 1)), .mk none (.alloc 4 25 [(.list 0 (some true) []), (.list 0 (some true) []), (.int .i64 0), (.bool false)]), .mk none (.store 4 (.t 4) (.t 30))]
def f8b35 : AQ := (.seq (.region f8r34) f8b33)
def f8r36 : LA := [.mk none (.load 26 4 true (.t 1)), .mk none (.call (some 27) 14 [(.t 26), (.v (.k (.c (.str [97]))))]), .mk none (.mov 25 (.t 27)), .mk none (.extr 28 (.t 25) 0), .mk none (.extr 29 (.t 25) 1), .mk none (.store 4 (.t 1) (.t 28)), .mk none (.mov 3 (.t 29))]
def f8b37 : AQ := (.seq (.region f8r36) f8b35)
def f8r38 : LA := [.mk none (.call (some 22) 11 [(.v (.k (.c (.int .i64 5))))]), .mk none (.mov 21 (.t 22)), .mk none (.extr 23 (.t 21) 0), .mk none (.extr 24 (.t 21) 1), .mk none (.alloc 1 25 [(.list 0 (some true) []), (.list 0 (some true) []), (.int .i64 0), (.bool false)]), .mk none (.store 4 (.t 1) (.t 23)), .mk none (.mov 2 (.t 24))]
def f8b39 : AQ := (.seq (.region f8r38) f8b37)
def f8r40 : LA := [.mk none (.mov 0 (.v (.k (.c (.bool false)))))]
def f8b41 : AQ := (.seq (.region f8r40) f8b39)
def f8 : AQ := f8b41
theorem hf8 : zG Tryz.prog 8 = some ⟨139, f8.erase, [(RX.t 0)]⟩ := by kernel_rfl
theorem okf8 : f8.ok = true := by kernel_rfl
end Go.Abs
namespace Go.Abs
theorem wrap_in {n : Int} (h1 : -9223372036854775808 ≤ n) (h2 : n ≤ 9223372036854775807) : IntKind.i64.wrap n = n := IntWalk.i64_in n ⟨h1, h2⟩
def lstC (sz : Nat) (rows : List (List C)) : C := .list (if rows.isEmpty then 0 else sz) none rows
abbrev lst (sz : Nat) (rows : List (List C)) : V := .k (.c (lstC sz rows))
def qY (l : List Int) : List (List C) := l.map fun n => [.int .i64 n]
theorem v8 {α : Type} {f : α → List C} (hf : ∀ x, C.normRow (f x) = f x) (l : List α) : C.normRows (l.map f) = l.map f := by
 induction l with
 | nil => rfl
 | cons a l ih => simp [C.normRows, hf, ih]
theorem zg1 {α : Type} {f : α → List C} (hf : ∀ x, C.normRow (f x) = f x) (sz : Nat) (l : List α) : (lstC sz (l.map f)).norm = lstC sz (l.map f) := by
 unfold lstC
 simp only [C.norm, v8 hf]
 cases l <;> simp
inductive Term where
 | mk (op n : Int) (args : List Term)
 deriving Inhabited
def Term.op : Term → Int | .mk o _ _ => o
def Term.n : Term → Int | .mk _ n _ => n
def Term.args : Term → List Term | .mk _ _ a => a
mutual
def vI : Term → List C
 | .mk o n a => [.int .i64 o, .int .i64 n, lstC 3 (encTs a)]
def encTs : List Term → List (List C)
 | [] => []
 | t :: l => vI t :: encTs l
end
theorem zg2 : ∀ (l : List Term), encTs l = l.map vI
 | [] => rfl
 | t :: l => by simp [encTs, zg2 l]
theorem rQ (t : Term) : vI t = [.int .i64 t.op, .int .i64 t.n, lstC 3 (t.args.map vI)] := by
 cases t with
 | mk o n a => simp [vI, Term.op, Term.n, Term.args, zg2]
mutual
theorem nE : ∀ (t : Term), C.normRow (vI t) = vI t
 | .mk o n a => by
   simp only [vI, C.normRow, C.norm, lstC, encTs_norm a]
   cases a <;> simp [encTs]
theorem encTs_norm : ∀ (l : List Term), C.normRows (encTs l) = encTs l
 | [] => rfl
 | t :: l => by simp only [encTs, C.normRows, nE t, encTs_norm l]
end
structure Choice where
 ask : Int
 by_ : Int
 whole : Bool
 deriving Inhabited
structure Rule where
 ask : Int
 term : Term
 deriving Inhabited
structure Order where
 name : List UInt8
 accepts : Bool
 choices : List Choice
 rules : List Rule
 deriving Inhabited
def vJ (c : Choice) : List C := [.int .i64 c.ask, .int .i64 c.by_, .bool c.whole]
def wR (r : Rule) : List C := .int .i64 r.ask :: vI r.term
def vK (o : Order) : List C := [.str o.name, .bool o.accepts, lstC 3 (o.choices.map vJ), lstC 4 (o.rules.map wR)]
theorem jC (c : Choice) : C.normRow (vJ c) = vJ c := rfl
theorem jD (r : Rule) : C.normRow (wR r) = wR r := by simp [wR, C.normRow, C.norm, nE]
theorem zg3 (o : Order) : C.normRow (vK o) = vK o := by
 simp only [vK, C.normRow, C.norm, zg1 jC, zg1 jD]
structure Cell where
 known : Bool
 n : Int
 deriving Inhabited
def uA (c : Cell) : List C := [.bool c.known, .int .i64 c.n]
theorem zg4 (c : Cell) : C.normRow (uA c) = uA c := rfl
def zg5 (n : Int) : List C := [.int .i64 n]
@[simp] theorem zoc (k : IntKind) (n : Int) : C.normRow [.int k n] = [.int k n] := rfl
@[simp] theorem zod (n : Int) : C.normRow (zg5 n) = zg5 n := rfl
attribute [simp] nE jC jD zg3 zg4 C.normRow
@[simp] theorem sO (k : IntKind) (n : Int) : (C.int k n).norm = .int k n := rfl
@[simp] theorem nF (b : Bool) : (C.bool b).norm = .bool b := rfl
@[simp] theorem zg6 (s : List UInt8) : (C.str s).norm = .str s := rfl
@[simp] theorem zoe (row : List C) (off : Nat) : (C.ro row off).norm = .ro (C.normRow row) off := rfl
@[simp] theorem zof (f : FuncId) (caps : List C) : (C.fn f caps).norm = .fn f (C.normRow caps) := rfl
@[simp] theorem zog (l : List Term) : C.normRows (l.map vI) = l.map vI := v8 nE l
@[simp] theorem zoh (l : List Choice) : C.normRows (l.map vJ) = l.map vJ := v8 jC l
@[simp] theorem zoi (l : List Rule) : C.normRows (l.map wR) = l.map wR := v8 jD l
@[simp] theorem zoj (l : List Order) : C.normRows (l.map vK) = l.map vK := v8 zg3 l
@[simp] theorem zok (l : List Cell) : C.normRows (l.map uA) = l.map uA := v8 zg4 l
@[simp] theorem zol (l : List Int) : C.normRows (qY l) = qY l := v8 (fun _ => rfl) l
@[simp] theorem zom : C.normRows [] = [] := rfl
@[simp] theorem zon (r : List C) (l : List (List C)) : C.normRows (r :: l) = C.normRow r :: C.normRows l := rfl
@[simp] theorem zoo (l : List Int) : (qY l).length = l.length := by simp [qY]
@[simp] theorem zop (l : List Int) : (qY l).isEmpty = l.isEmpty := by cases l <;> rfl
theorem zg7 (o : Nat → Option O) (sz : Nat) (rows : List (List C)) : vLen o (.k (.c (lstC sz rows))) = some (True, .int .i64 rows.length) := rfl
theorem zg8 (o : Nat → Option O) (sz : Nat) (rows : List (List C)) (k : IntKind) (n : Int) : vIaddr o sz (.k (.c (lstC sz rows))) (.k (.c (.int k n))) = some (0 ≤ n ∧ n < rows.length, .k (.pel sz rows n.toNat 0)) := by
 simp only [lstC, vIaddr, Option.some.injEq, Prod.mk.injEq]
 cases rows with
 | nil => simp; omega
 | cons a l =>
   refine ⟨?_, ?_⟩
   · simp
   · simp
def jE (sz : Nat) (rows : List (List C)) : Option Int → Option Int → Option (Prop × V)
 | some l, some h => some (0 ≤ l ∧ l ≤ h ∧ h ≤ rows.length, .list sz none ((rows.take h.toNat).drop l.toNat))
 | _, _ => none
theorem zlP (sz : Nat) (lo hi : Option V) (rows : List (List C)) : vSlice sz lo hi (.k (.c (lstC sz rows))) = jE sz rows (vBound 0 lo) (vBound rows.length hi) := by
 simp only [lstC, vSlice]
 generalize vBound 0 lo = a
 generalize vBound (↑rows.length) hi = b
 cases a <;> cases b <;> simp only [cutL, jE]
 simp only [Option.some.injEq, Prod.mk.injEq, and_true]
 cases rows <;> simp
theorem zlQ (sz : Nat) (rows : List (List C)) (l h : Int) : jE sz rows (some l) (some h) = some (0 ≤ l ∧ l ≤ h ∧ h ≤ rows.length, .list sz none ((rows.take h.toNat).drop l.toNat)) := id rfl
@[simp] theorem xK (sz : Nat) (rows : List (List C)) : (lstC sz rows).norm = lstC sz (C.normRows rows) := by
 unfold lstC
 simp only [C.norm]
 cases rows <;> simp [C.normRows]
@[simp] theorem z6 (sz : Nat) (nl : Option Bool) (rows : List (List C)) : (C.list sz nl rows).norm = lstC sz (C.normRows rows) := by
 unfold lstC
 simp only [C.norm]
 cases rows <;> simp [C.normRows]
theorem zlR (d : Nat) (r : List C) : (r.map Abs.K.c).all (Abs.K.noRef d) = true := by induction r <;> simp_all [Abs.K.noRef]
theorem sP {sz : Nat} {rows : List (List C)} {l : List V} (hm : lst sz rows ∈ l) (h : ∀ v, v ∈ l → ∀ c, c ∈ v.topC → ∀ sz nl rows, c = .list sz nl rows → rows.length ≤ 9223372036854775807) : rows.length ≤ 9223372036854775807 :=
 h _ hm (lstC sz rows) (by simp [V.topC]) _ _ _ rfl
section
variable {P : Program} {f : FuncId} {vs : List V} {K : KK} {d : Nat} {ts : TS} {os : OS}
theorem zJ {args : List V} {r : V} {X : Prop} (hs : Spec P f args (fun r' => r' = r)) (hk : K (insT d r ts) os)
   (hp : vs.all (fun v => (zH os v).isPure) = true := by simp [zH, yI, lookO, V.isPure])
   (ha : vs.map (fun v => (zH os v).norm) = args := by simp [zH, yI, lookO, V.norm, rQ, wR, vK, vJ, uA, z6, lst]) (hr : r.scalar = true := by rfl) : v7 P f vs [] K (some d) ts os ∨ X := by
 refine .inl ⟨hp, r, .inl ?_, ?_⟩
 · simpa [ha] using hs
 · rw [if_pos hr]; exact hk
theorem zlS {cs : List C} {args : List V} {r : V} {X : Prop} (hs : Spec P f args (fun r' => r' = r)) (hk : K (insT d r ts) os)
   (hp : vs.all (fun v => (zH os v).isPure) = true := by simp [zH, yI, lookO, V.isPure])
   (ha : (vs.map (fun v => (zH os v).norm) ++ cs.map fun c => .k (.c c.norm)) = args := by simp [zH, yI, lookO, V.norm, rQ, wR, vK, vJ, uA, z6, lst]) (hr : r.scalar = true := by rfl) : v7 P f vs cs K (some d) ts os ∨ X := by
 refine .inl ⟨hp, r, .inl (by rw [ha]; exact hs), ?_⟩
 rw [if_pos hr]; exact hk
theorem zT {args : List V} {r : V} {X : Prop} (hs : Spec P f args (fun r' => r' = r)) (hk : retK r K ts os (some d))
   (hp : vs.all (fun v => (zH os v).isPure) = true := by simp [zH, yI, lookO, V.isPure])
   (ha : vs.map (fun v => (zH os v).norm) = args := by simp [zH, yI, lookO, V.norm, rQ, wR, vK, vJ, uA, z6, lst])
   (ht : vs.all (fun v => v.toks.isEmpty) = true := by simp [V.toks, K.toks]) (hr : r.scalar = false := by rfl) : v7 P f vs [] K (some d) ts os ∨ X := by
 refine .inl ⟨hp, r, .inl (by simpa [ha] using hs), ?_⟩
 rw [if_neg (by simp [hr])]
 exact ⟨ht, hk⟩
theorem tG {args : List V} {e sz : Nat} {nl : Option Bool} {rows : List (List C)} {X : Prop} (hs : Spec P f args (fun r' => r' = .k (.newl e sz nl rows))) (hk : K (insT d (.k (.own d)) ts) (insO d (.arr e sz nl rows) os))
   (hp : vs.all (fun v => (zH os v).isPure) = true := by simp [zH, yI, lookO, V.isPure])
   (ha : vs.map (fun v => (zH os v).norm) = args := by simp [zH, yI, lookO, V.norm, rQ, wR, vK, vJ, uA, z6, lst])
   (ht : vs.all (fun v => v.toks.isEmpty) = true := by simp [V.toks, K.toks]) (hf : freeB d ts os := by first | rfl | simp [freeB, freeT, freeO, V.noRef, V.noRefL, O.noRef, Abs.K.noRef, zlR]) : v7 P f vs [] K (some d) ts os ∨ X := by
 refine .inl ⟨hp, _, .inl (by simpa [ha] using hs), ?_⟩
 rw [if_neg (by simp [V.scalar])]
 refine ⟨ht, ?_⟩
 show regK _ _ _ _ _ _
 refine ⟨⟨⟨hf, .inl rfl⟩, trivial⟩, hk⟩
theorem sQ {args : List V} {r : V} (hs : Spec P f args (fun r' => r' = r)) (hk : K (insT d r.fz ts) os)
   (hp : vs.all (fun v => (zH os v).isPure) = true := by simp [zH, yI, lookO, V.isPure])
   (ha : vs.map (fun v => (zH os v).norm) = args := by simp [zH, yI, lookO, V.norm, rQ, wR, vK, vJ, uA, z6, lst]) (hr : r.scalar = true := by rfl) : rF P f vs [] K d ts os :=
 ⟨hp, r, by simpa [ha] using hs, .inl hr, hk⟩
theorem zg9 {args : List V} {r : V} (hs : Spec P f args (fun r' => r' = r)) (hk : K (insT d r.fz ts) os)
   (hp : vs.all (fun v => (zH os v).isPure) = true := by simp [zH, yI, lookO, V.isPure])
   (ha : vs.map (fun v => (zH os v).norm) = args := by simp [zH, yI, lookO, V.norm, rQ, wR, vK, vJ, uA, z6, lst]) (hr : vs.all (fun v => v.toks.isEmpty) = true := by simp [V.toks, K.toks]) : rF P f vs [] K d ts os :=
 ⟨hp, r, by simpa [ha] using hs, .inr hr, hk⟩
end
end Go.Abs
set_option maxRecDepth 100000
namespace Go.Abs
theorem Qs : ((((((((type_of% @zc2 ∧ type_of% @zcZ) ∧ (type_of% @zbG ∧ type_of% @zcb)) ∧ ((type_of% @zci ∧ type_of% @true_and) ∧ (type_of% @zca ∧ (type_of% @zcv ∧ type_of% @zbH)))) ∧ (((type_of% @zde ∧ type_of% @zdt) ∧ (type_of% @zc5 ∧ type_of% @zc8)) ∧ ((type_of% @zc0 ∧ type_of% @Nat.zero_add) ∧ (type_of% @zf7 ∧ (type_of% @zf8 ∧ type_of% @zdu))))) ∧ ((((type_of% @zdv ∧ type_of% @zc9) ∧ (type_of% @zgB ∧ type_of% @zdk)) ∧ ((type_of% @and_self ∧ type_of% @zcE) ∧ (type_of% @zgl ∧ (type_of% @zbI ∧ type_of% @zdw)))) ∧ (((type_of% @zdy ∧ type_of% @zgk) ∧ (type_of% @zgc ∧ (type_of% @zga ∧ type_of% @zf9))) ∧ ((type_of% @zgu ∧ type_of% @Nat.le_refl) ∧ (type_of% @zeh ∧ (type_of% @zei ∧ type_of% @zc3)))))) ∧ (((((type_of% @zeF ∧ type_of% @zeG) ∧ (type_of% @zcC ∧ type_of% @zgD)) ∧ ((type_of% @zeE ∧ type_of% @zdc) ∧ (type_of% @ze9 ∧ (type_of% @zfa ∧ type_of% @zfb)))) ∧ (((type_of% @zfc ∧ type_of% @zfd) ∧ (type_of% @zfj ∧ (type_of% @zfo ∧ type_of% @zdX))) ∧ ((type_of% @zdZ ∧ type_of% @zd1) ∧ (type_of% @zfe ∧ (type_of% @zfv ∧ type_of% @zfD))))) ∧ ((((type_of% @zfM ∧ type_of% @zfN) ∧ (type_of% @zfA ∧ type_of% @zfH)) ∧ ((type_of% @zgC ∧ type_of% @zc4) ∧ (type_of% @zgb ∧ (type_of% @Bool.false_eq_true ∧ type_of% @zeg)))) ∧ (((type_of% @zdE ∧ type_of% @zeH) ∧ (type_of% @zcx ∧ (type_of% @zbJ ∧ type_of% @xK))) ∧ ((type_of% @zfq ∧ type_of% @zco) ∧ (type_of% @zft ∧ (type_of% @zgd ∧ type_of% @Bool.and_true))))))) ∧ ((((((type_of% @zeK ∧ type_of% @zeL) ∧ (type_of% @zeM ∧ type_of% @zeN)) ∧ ((type_of% @Bool.or_true ∧ type_of% @not_false_eq_true) ∧ (type_of% @zen ∧ (type_of% @zew ∧ type_of% @zex)))) ∧ (((type_of% @decide_false ∧ type_of% @zgx) ∧ (type_of% @zgE ∧ type_of% @decide_true)) ∧ ((type_of% @zcl ∧ type_of% @zcM) ∧ (type_of% @Nat.add_zero ∧ (type_of% @zfP ∧ type_of% @zcN))))) ∧ ((((type_of% @zcD ∧ type_of% @zdg) ∧ (type_of% @zfQ ∧ type_of% @zg7)) ∧ ((type_of% @zd5 ∧ type_of% @zfk) ∧ (type_of% @zda ∧ (type_of% @zgw ∧ type_of% @zdU)))) ∧ (((type_of% @zeo ∧ type_of% @zgz) ∧ (type_of% @zfi ∧ (type_of% @zfx ∧ type_of% @zfB))) ∧ ((type_of% @zfC ∧ type_of% @zfG) ∧ (type_of% @zfJ ∧ (type_of% @zfK ∧ type_of% @zel)))))) ∧ (((((type_of% @zeP ∧ type_of% @zeU) ∧ (type_of% @zfO ∧ type_of% @zef)) ∧ ((type_of% @zeQ ∧ type_of% @zcI) ∧ (type_of% @zeO ∧ (type_of% @Bool.false_or ∧ type_of% @zfR)))) ∧ (((type_of% @zdr ∧ type_of% @zds) ∧ (type_of% @zdD ∧ (type_of% @zfh ∧ type_of% @zeW))) ∧ ((type_of% @zeY ∧ type_of% @zgp) ∧ (type_of% @zgq ∧ (type_of% @zfL ∧ type_of% @zgr))))) ∧ ((((type_of% @zc1 ∧ type_of% @zdO) ∧ (type_of% @zgm ∧ type_of% @zgn)) ∧ ((type_of% @zff ∧ type_of% @zfg) ∧ (type_of% @zdG ∧ (type_of% @zcL ∧ type_of% @zgy)))) ∧ (((type_of% @zck ∧ type_of% @Int.toNat_natCast) ∧ (type_of% @zfy ∧ (type_of% @zfE ∧ type_of% @Int.natCast_nonneg))) ∧ ((type_of% @Bool.true_and ∧ type_of% @zcn) ∧ (type_of% @zcy ∧ (type_of% @zdP ∧ type_of% @zcO)))))))) ∧ (((((((type_of% @zdL ∧ type_of% @zdN) ∧ (type_of% @zd2 ∧ type_of% @zf3)) ∧ ((type_of% @zf4 ∧ type_of% @zf5) ∧ (type_of% @zf6 ∧ (type_of% @zdz ∧ type_of% @zdb)))) ∧ (((type_of% @zdf ∧ type_of% @zdi) ∧ (type_of% @zcF ∧ type_of% @zg8)) ∧ ((type_of% @zfn ∧ type_of% @zdM) ∧ (type_of% @zcs ∧ (type_of% @zdh ∧ type_of% @zcq))))) ∧ ((((type_of% @zfY ∧ type_of% @zf0) ∧ (type_of% @zcz ∧ type_of% @zer)) ∧ ((type_of% @Bool.and_eq_true ∧ type_of% @zcJ) ∧ (type_of% @zfZ ∧ (type_of% @zf1 ∧ type_of% @zf2)))) ∧ (((type_of% @zgo ∧ type_of% @zcj) ∧ (type_of% @zdW ∧ (type_of% @zd8 ∧ type_of% @zea))) ∧ ((type_of% @zct ∧ type_of% @zfm) ∧ (type_of% @zfr ∧ (type_of% @zfs ∧ type_of% @zcA)))))) ∧ (((((type_of% @zd6 ∧ type_of% @zdH) ∧ (type_of% @zeV ∧ type_of% @zeZ)) ∧ ((type_of% @zdj ∧ type_of% @zdx) ∧ (type_of% @zfu ∧ (type_of% @zdC ∧ type_of% @zcQ)))) ∧ (((type_of% @Int.cast_ofNat_Int ∧ type_of% @zd7) ∧ (type_of% @zcm ∧ (type_of% @zfp ∧ type_of% @zeS))) ∧ ((type_of% @ze0 ∧ type_of% @ze1) ∧ (type_of% @zcd ∧ (type_of% @zep ∧ type_of% @zfz))))) ∧ ((((type_of% @zfI ∧ type_of% @and_true) ∧ (type_of% @zcR ∧ type_of% @zeX)) ∧ ((type_of% @zge ∧ type_of% @false_implies) ∧ (type_of% @zcY ∧ (type_of% @zgh ∧ type_of% @zgi)))) ∧ (((type_of% @or_false ∧ type_of% @zgg) ∧ (type_of% @zcg ∧ (type_of% @zcp ∧ type_of% @zet))) ∧ ((type_of% @zdF ∧ type_of% @zgf) ∧ (type_of% @zes ∧ (type_of% @zcw ∧ type_of% @zeu))))))) ∧ ((((((type_of% @zgj ∧ type_of% @zcu) ∧ (type_of% @zcc ∧ type_of% @zec)) ∧ ((type_of% @zcB ∧ type_of% @zev) ∧ (type_of% @zek ∧ (type_of% @zej ∧ type_of% @zeI)))) ∧ (((type_of% @zeJ ∧ type_of% @zdI) ∧ (type_of% @zed ∧ type_of% @zee)) ∧ ((type_of% @zc6 ∧ type_of% @zcV) ∧ (type_of% @zcr ∧ (type_of% @zdA ∧ type_of% @zcS))))) ∧ ((((type_of% @zbX ∧ type_of% @zem) ∧ (type_of% @zfS ∧ type_of% @zfV)) ∧ ((type_of% @zdB ∧ type_of% @zdV) ∧ (type_of% @zgA ∧ (type_of% @zeq ∧ type_of% @zcT)))) ∧ (((type_of% @zgv ∧ type_of% @Int.toNat_zero) ∧ (type_of% @zfl ∧ (type_of% @zfw ∧ type_of% @zfF))) ∧ ((type_of% @zgs ∧ type_of% @zgt) ∧ (type_of% @zcK ∧ (type_of% @zdT ∧ type_of% @zcW)))))) ∧ (((((type_of% @zeb ∧ type_of% @zcH) ∧ (type_of% @zeT ∧ type_of% @zeA)) ∧ ((type_of% @zeC ∧ type_of% @ze2) ∧ (type_of% @ze4 ∧ (type_of% @ze5 ∧ type_of% @zdd)))) ∧ (((type_of% @zdl ∧ type_of% @zdm) ∧ (type_of% @zdn ∧ (type_of% @zdo ∧ type_of% @zdp))) ∧ ((type_of% @zdq ∧ type_of% @ze6) ∧ (type_of% @zc7 ∧ (type_of% @zcP ∧ type_of% @zey))))) ∧ ((((type_of% @zez ∧ type_of% @zbY) ∧ (type_of% @zdJ ∧ type_of% @zbW)) ∧ ((type_of% @zce ∧ type_of% @zcf) ∧ (type_of% @zch ∧ (type_of% @zcX ∧ type_of% @zfT)))) ∧ (((type_of% @zfU ∧ type_of% @zfW) ∧ (type_of% @zfX ∧ (type_of% @zbZ ∧ type_of% @not_true_eq_false))) ∧ ((type_of% @Bool.true_or ∧ type_of% @zd9) ∧ (type_of% @zgF ∧ (type_of% @zgH ∧ type_of% @zgJ))))))))) := ⟨⟨⟨⟨⟨⟨⟨⟨@zc2, @zcZ⟩, ⟨@zbG, @zcb⟩⟩, ⟨⟨@zci, @true_and⟩, ⟨@zca, ⟨@zcv, @zbH⟩⟩⟩⟩, ⟨⟨⟨@zde, @zdt⟩, ⟨@zc5, @zc8⟩⟩, ⟨⟨@zc0, @Nat.zero_add⟩, ⟨@zf7, ⟨@zf8, @zdu⟩⟩⟩⟩⟩, ⟨⟨⟨⟨@zdv, @zc9⟩, ⟨@zgB, @zdk⟩⟩, ⟨⟨@and_self, @zcE⟩, ⟨@zgl, ⟨@zbI, @zdw⟩⟩⟩⟩, ⟨⟨⟨@zdy, @zgk⟩, ⟨@zgc, ⟨@zga, @zf9⟩⟩⟩, ⟨⟨@zgu, @Nat.le_refl⟩, ⟨@zeh, ⟨@zei, @zc3⟩⟩⟩⟩⟩⟩, ⟨⟨⟨⟨⟨@zeF, @zeG⟩, ⟨@zcC, @zgD⟩⟩, ⟨⟨@zeE, @zdc⟩, ⟨@ze9, ⟨@zfa, @zfb⟩⟩⟩⟩, ⟨⟨⟨@zfc, @zfd⟩, ⟨@zfj, ⟨@zfo, @zdX⟩⟩⟩, ⟨⟨@zdZ, @zd1⟩, ⟨@zfe, ⟨@zfv, @zfD⟩⟩⟩⟩⟩, ⟨⟨⟨⟨@zfM, @zfN⟩, ⟨@zfA, @zfH⟩⟩, ⟨⟨@zgC, @zc4⟩, ⟨@zgb, ⟨@Bool.false_eq_true, @zeg⟩⟩⟩⟩, ⟨⟨⟨@zdE, @zeH⟩, ⟨@zcx, ⟨@zbJ, @xK⟩⟩⟩, ⟨⟨@zfq, @zco⟩, ⟨@zft, ⟨@zgd, @Bool.and_true⟩⟩⟩⟩⟩⟩⟩, ⟨⟨⟨⟨⟨⟨@zeK, @zeL⟩, ⟨@zeM, @zeN⟩⟩, ⟨⟨@Bool.or_true, @not_false_eq_true⟩, ⟨@zen, ⟨@zew, @zex⟩⟩⟩⟩, ⟨⟨⟨@decide_false, @zgx⟩, ⟨@zgE, @decide_true⟩⟩, ⟨⟨@zcl, @zcM⟩, ⟨@Nat.add_zero, ⟨@zfP, @zcN⟩⟩⟩⟩⟩, ⟨⟨⟨⟨@zcD, @zdg⟩, ⟨@zfQ, @zg7⟩⟩, ⟨⟨@zd5, @zfk⟩, ⟨@zda, ⟨@zgw, @zdU⟩⟩⟩⟩, ⟨⟨⟨@zeo, @zgz⟩, ⟨@zfi, ⟨@zfx, @zfB⟩⟩⟩, ⟨⟨@zfC, @zfG⟩, ⟨@zfJ, ⟨@zfK, @zel⟩⟩⟩⟩⟩⟩, ⟨⟨⟨⟨⟨@zeP, @zeU⟩, ⟨@zfO, @zef⟩⟩, ⟨⟨@zeQ, @zcI⟩, ⟨@zeO, ⟨@Bool.false_or, @zfR⟩⟩⟩⟩, ⟨⟨⟨@zdr, @zds⟩, ⟨@zdD, ⟨@zfh, @zeW⟩⟩⟩, ⟨⟨@zeY, @zgp⟩, ⟨@zgq, ⟨@zfL, @zgr⟩⟩⟩⟩⟩, ⟨⟨⟨⟨@zc1, @zdO⟩, ⟨@zgm, @zgn⟩⟩, ⟨⟨@zff, @zfg⟩, ⟨@zdG, ⟨@zcL, @zgy⟩⟩⟩⟩, ⟨⟨⟨@zck, @Int.toNat_natCast⟩, ⟨@zfy, ⟨@zfE, @Int.natCast_nonneg⟩⟩⟩, ⟨⟨@Bool.true_and, @zcn⟩, ⟨@zcy, ⟨@zdP, @zcO⟩⟩⟩⟩⟩⟩⟩⟩, ⟨⟨⟨⟨⟨⟨⟨@zdL, @zdN⟩, ⟨@zd2, @zf3⟩⟩, ⟨⟨@zf4, @zf5⟩, ⟨@zf6, ⟨@zdz, @zdb⟩⟩⟩⟩, ⟨⟨⟨@zdf, @zdi⟩, ⟨@zcF, @zg8⟩⟩, ⟨⟨@zfn, @zdM⟩, ⟨@zcs, ⟨@zdh, @zcq⟩⟩⟩⟩⟩, ⟨⟨⟨⟨@zfY, @zf0⟩, ⟨@zcz, @zer⟩⟩, ⟨⟨@Bool.and_eq_true, @zcJ⟩, ⟨@zfZ, ⟨@zf1, @zf2⟩⟩⟩⟩, ⟨⟨⟨@zgo, @zcj⟩, ⟨@zdW, ⟨@zd8, @zea⟩⟩⟩, ⟨⟨@zct, @zfm⟩, ⟨@zfr, ⟨@zfs, @zcA⟩⟩⟩⟩⟩⟩, ⟨⟨⟨⟨⟨@zd6, @zdH⟩, ⟨@zeV, @zeZ⟩⟩, ⟨⟨@zdj, @zdx⟩, ⟨@zfu, ⟨@zdC, @zcQ⟩⟩⟩⟩, ⟨⟨⟨@Int.cast_ofNat_Int, @zd7⟩, ⟨@zcm, ⟨@zfp, @zeS⟩⟩⟩, ⟨⟨@ze0, @ze1⟩, ⟨@zcd, ⟨@zep, @zfz⟩⟩⟩⟩⟩, ⟨⟨⟨⟨@zfI, @and_true⟩, ⟨@zcR, @zeX⟩⟩, ⟨⟨@zge, @false_implies⟩, ⟨@zcY, ⟨@zgh, @zgi⟩⟩⟩⟩, ⟨⟨⟨@or_false, @zgg⟩, ⟨@zcg, ⟨@zcp, @zet⟩⟩⟩, ⟨⟨@zdF, @zgf⟩, ⟨@zes, ⟨@zcw, @zeu⟩⟩⟩⟩⟩⟩⟩, ⟨⟨⟨⟨⟨⟨@zgj, @zcu⟩, ⟨@zcc, @zec⟩⟩, ⟨⟨@zcB, @zev⟩, ⟨@zek, ⟨@zej, @zeI⟩⟩⟩⟩, ⟨⟨⟨@zeJ, @zdI⟩, ⟨@zed, @zee⟩⟩, ⟨⟨@zc6, @zcV⟩, ⟨@zcr, ⟨@zdA, @zcS⟩⟩⟩⟩⟩, ⟨⟨⟨⟨@zbX, @zem⟩, ⟨@zfS, @zfV⟩⟩, ⟨⟨@zdB, @zdV⟩, ⟨@zgA, ⟨@zeq, @zcT⟩⟩⟩⟩, ⟨⟨⟨@zgv, @Int.toNat_zero⟩, ⟨@zfl, ⟨@zfw, @zfF⟩⟩⟩, ⟨⟨@zgs, @zgt⟩, ⟨@zcK, ⟨@zdT, @zcW⟩⟩⟩⟩⟩⟩, ⟨⟨⟨⟨⟨@zeb, @zcH⟩, ⟨@zeT, @zeA⟩⟩, ⟨⟨@zeC, @ze2⟩, ⟨@ze4, ⟨@ze5, @zdd⟩⟩⟩⟩, ⟨⟨⟨@zdl, @zdm⟩, ⟨@zdn, ⟨@zdo, @zdp⟩⟩⟩, ⟨⟨@zdq, @ze6⟩, ⟨@zc7, ⟨@zcP, @zey⟩⟩⟩⟩⟩, ⟨⟨⟨⟨@zez, @zbY⟩, ⟨@zdJ, @zbW⟩⟩, ⟨⟨@zce, @zcf⟩, ⟨@zch, ⟨@zcX, @zfT⟩⟩⟩⟩, ⟨⟨⟨@zfU, @zfW⟩, ⟨@zfX, ⟨@zbZ, @not_true_eq_false⟩⟩⟩, ⟨⟨@Bool.true_or, @zd9⟩, ⟨@zgF, ⟨@zgH, @zgJ⟩⟩⟩⟩⟩⟩⟩⟩⟩
end Go.Abs
namespace Go.Abs
section
variable {P : Program}
theorem jF {n : Nat} {t : TypeId} {r : List C} {k : IntKind} (hu : P.underlying t = some (.int k)) (h : yE P n t r) : ∃ m : Int, r = [.int k m] ∧ (Lit.int k m).wf = true := by
 cases n with
 | zero => exact h.elim
 | succ n => simp only [yE, hu] at h; exact h
theorem zlT {n : Nat} {t : TypeId} {r : List C} (hu : P.underlying t = some .bool) (h : yE P n t r) : ∃ b : Bool, r = [.bool b] := by
 cases n with
 | zero => exact h.elim
 | succ n => simp only [yE, hu] at h; exact h
theorem jG {n : Nat} {t : TypeId} {r : List C} (hu : P.underlying t = some .string) (h : yE P n t r) : ∃ s : List UInt8, r = [.str s] ∧ s.length ≤ 9223372036854775807 := by
 cases n with
 | zero => exact h.elim
 | succ n => simp only [yE, hu] at h; exact h
theorem jH {n : Nat} {t e : TypeId} {r : List C} (hu : P.underlying t = some (.slice e)) (h : yE P n t r) : ∃ m rows, n = m + 1 ∧ r = [lstC (P.cellsOf e) rows] ∧ rows.length ≤ 9223372036854775807 ∧ ∀ x ∈ rows, yE P m e x := by
 cases n with
 | zero => exact h.elim
 | succ n => simp only [yE, hu] at h; obtain ⟨rows, h1, h2, h3⟩ := h; exact ⟨n, rows, rfl, h1, h2, h3⟩
theorem zha {n : Nat} {t : TypeId} {fs : Array Field} {r : List C} (hu : P.underlying t = some (.struct fs)) (h : yE P n t r) : ∃ m rs, n = m + 1 ∧ r = rs.flatten ∧ sN (yE P m) (fs.toList.map (·.type)) rs := by
 cases n with
 | zero => exact h.elim
 | succ n => simp only [yE, hu] at h; obtain ⟨rs, h1, h2⟩ := h; exact ⟨n, rs, rfl, h1, h2⟩
theorem zlU {S : TypeId → List C → Prop} {a b : TypeId} {rs : List (List C)} (h : sN S [a, b] rs) : ∃ x y, rs = [x, y] ∧ S a x ∧ S b y := by
 match rs, h with
 | [x, y], h => exact ⟨x, y, rfl, h.1, h.2.1⟩
theorem zlV {S : TypeId → List C → Prop} {a b c d : TypeId} {rs : List (List C)} (h : sN S [a, b, c, d] rs) : ∃ x y z u, rs = [x, y, z, u] ∧ S a x ∧ S b y ∧ S c z ∧ S d u := by
 match rs, h with
 | [x, y, z, u], h => exact ⟨x, y, z, u, rfl, h.1, h.2.1, h.2.2.1, h.2.2.2.1⟩
theorem nG {α : Type} {S : List C → Prop} (enc : α → List C) (hS : ∀ r, S r → ∃ a, r = enc a) : ∀ (rows : List (List C)), (∀ r ∈ rows, S r) → ∃ l : List α, rows = l.map enc
 | [], _ => ⟨[], rfl⟩
 | r :: rows, h => by
   obtain ⟨a, ha⟩ := hS r (h r (by simp))
   obtain ⟨l, hl⟩ := nG enc hS rows (fun x hx => h x (by simp [hx]))
   exact ⟨a :: l, by rw [ha, hl]; rfl⟩
variable {tI tB tS tT tLT tR tLR tC tLC tO : TypeId}
end
section
variable {P : Program}
end
end Go.Abs
set_option maxRecDepth 100000
namespace Go.Proofs
open Go.Shelf Go.RowKit
def Tryz.laysMul_ren : Go.Shelf.Ren :=
 {
   f := fun x =>
     match x with
     | 212 => 78
     | 263 => 106
     | 264 => 107
     | n => n,
   t := fun x =>
     match x with
     | 46 => 84
     | 51 => 113
     | 146 => 116
     | 53 => 115
     | 148 => 118
     | n => n,
   g := fun n => n }
theorem Tryz.laysMul : Lays.n212 Tryz.prog Tryz.laysMul_ren :=
 { mixed := by kernel_rfl, f212 := Eq.trans Tryz.func78 (congrArg some (Eq.refl (Body.n212 Tryz.laysMul_ren))),
   f263 := Eq.trans Tryz.func106 (congrArg some (Eq.refl (Body.n263 Tryz.laysMul_ren))),
   f264 := Eq.trans Tryz.func107 (congrArg some (Eq.refl (Body.n264 Tryz.laysMul_ren))), t46 := Tryz.underlying84,
   a46 := Tryz.isAgg84, z46 := Tryz.sizeOf84, v46 := Tryz.zeroValue84, t51 := Tryz.underlying113, a51 := Tryz.isAgg113,
   z51 := Tryz.sizeOf113, v51 := Tryz.zeroValue113, t53 := Tryz.underlying115, a53 := Tryz.isAgg115,
   z53 := Tryz.sizeOf115, v53 := Tryz.zeroValue115, t146 := Tryz.underlying116, a146 := Tryz.isAgg116,
   z146 := Tryz.sizeOf116, v146 := Tryz.zeroValue116, t148 := Tryz.underlying118, a148 := Tryz.isAgg118,
   z148 := Tryz.sizeOf118, v148 := Tryz.zeroValue118 }
def Tryz.laysClone_ren : Go.Shelf.Ren :=
 {
   f := fun x =>
     match x with
     | 16 => 37
     | n => n,
   t := fun x =>
     match x with
     | 24 => 22
     | 9 => 9
     | 4 => 4
     | n => n,
   g := fun n => n }
theorem Tryz.laysClone : Lays2.n16 Tryz.prog Tryz.laysClone_ren :=
 { mixed := by kernel_rfl, f16 := Eq.trans Tryz.func37 (congrArg some (Eq.refl (Body2.n16 Tryz.laysClone_ren))),
   t4 := Tryz.underlying4, a4 := Tryz.isAgg4, z4 := Tryz.sizeOf4, v4 := Tryz.zeroValue4, t9 := Tryz.underlying9,
   a9 := Tryz.isAgg9, z9 := Tryz.sizeOf9, v9 := Tryz.zeroValue9, t24 := Tryz.underlying22, a24 := Tryz.isAgg22,
   z24 := Tryz.sizeOf22, v24 := Tryz.zeroValue22, i9 := by kernel_rfl }
def Tryz.laysSort_ren : Go.Shelf.Ren :=
 {
   f := fun x =>
     match x with
     | 190 => 49
     | 125 => 76
     | 258 => 75
     | 128 => 104
     | 129 => 105
     | 302 => 95
     | 303 => 96
     | 304 => 97
     | 305 => 98
     | 306 => 99
     | 307 => 100
     | 308 => 101
     | 309 => 102
     | 310 => 103
     | 333 => 113
     | 329 => 114
     | 330 => 115
     | 334 => 116
     | 335 => 117
     | 336 => 118
     | 344 => 124
     | n => n,
   t := fun x =>
     match x with
     | 31 => 22
     | 9 => 9
     | 3 => 3
     | 46 => 84
     | 0 => 0
     | 51 => 113
     | 53 => 115
     | 4 => 4
     | 183 => 107
     | 182 => 106
     | 131 => 101
     | 5 => 5
     | 218 => 121
     | 222 => 125
     | 228 => 131
     | 229 => 132
     | n => n,
   g := fun n => n }
theorem Tryz.laysSort : Lays.n190 Tryz.prog Tryz.laysSort_ren :=
 { mixed := by kernel_rfl, f125 := Eq.trans Tryz.func76 (congrArg some (Eq.refl (Body.n125 Tryz.laysSort_ren))),
   f128 := Eq.trans Tryz.func104 (congrArg some (Eq.refl (Body.n128 Tryz.laysSort_ren))),
   f129 := Eq.trans Tryz.func105 (congrArg some (Eq.refl (Body.n129 Tryz.laysSort_ren))),
   f190 := Eq.trans Tryz.func49 (congrArg some (Eq.refl (Body.n190 Tryz.laysSort_ren))),
   f258 := Eq.trans Tryz.func75 (congrArg some (Eq.refl (Body.n258 Tryz.laysSort_ren))),
   f302 := Eq.trans Tryz.func95 (congrArg some (Eq.refl (Body.n302 Tryz.laysSort_ren))),
   f303 := Eq.trans Tryz.func96 (congrArg some (Eq.refl (Body.n303 Tryz.laysSort_ren))),
   f304 := Eq.trans Tryz.func97 (congrArg some (Eq.refl (Body.n304 Tryz.laysSort_ren))),
   f305 := Eq.trans Tryz.func98 (congrArg some (Eq.refl (Body.n305 Tryz.laysSort_ren))),
   f306 := Eq.trans Tryz.func99 (congrArg some (Eq.refl (Body.n306 Tryz.laysSort_ren))),
   f307 := Eq.trans Tryz.func100 (congrArg some (Eq.refl (Body.n307 Tryz.laysSort_ren))),
   f308 := Eq.trans Tryz.func101 (congrArg some (Eq.refl (Body.n308 Tryz.laysSort_ren))),
   f309 := Eq.trans Tryz.func102 (congrArg some (Eq.refl (Body.n309 Tryz.laysSort_ren))),
   f310 := Eq.trans Tryz.func103 (congrArg some (Eq.refl (Body.n310 Tryz.laysSort_ren))),
   f329 := Eq.trans Tryz.func114 (congrArg some (Eq.refl (Body.n329 Tryz.laysSort_ren))),
   f330 := Eq.trans Tryz.func115 (congrArg some (Eq.refl (Body.n330 Tryz.laysSort_ren))),
   f333 := Eq.trans Tryz.func113 (congrArg some (Eq.refl (Body.n333 Tryz.laysSort_ren))),
   f334 := Eq.trans Tryz.func116 (congrArg some (Eq.refl (Body.n334 Tryz.laysSort_ren))),
   f335 := Eq.trans Tryz.func117 (congrArg some (Eq.refl (Body.n335 Tryz.laysSort_ren))),
   f336 := Eq.trans Tryz.func118 (congrArg some (Eq.refl (Body.n336 Tryz.laysSort_ren))),
   f344 := Eq.trans Tryz.func124 (congrArg some (Eq.refl (Body.n344 Tryz.laysSort_ren))), t0 := Tryz.underlying0,
   a0 := Tryz.isAgg0, z0 := Tryz.sizeOf0, v0 := Tryz.zeroValue0, t3 := Tryz.underlying3, a3 := Tryz.isAgg3,
   z3 := Tryz.sizeOf3, v3 := Tryz.zeroValue3, t4 := Tryz.underlying4, a4 := Tryz.isAgg4, z4 := Tryz.sizeOf4,
   v4 := Tryz.zeroValue4, t5 := Tryz.underlying5, a5 := Tryz.isAgg5, z5 := Tryz.sizeOf5, v5 := Tryz.zeroValue5,
   t9 := Tryz.underlying9, a9 := Tryz.isAgg9, z9 := Tryz.sizeOf9, v9 := Tryz.zeroValue9, t31 := Tryz.underlying22,
   a31 := Tryz.isAgg22, z31 := Tryz.sizeOf22, v31 := Tryz.zeroValue22, t46 := Tryz.underlying84, a46 := Tryz.isAgg84,
   z46 := Tryz.sizeOf84, v46 := Tryz.zeroValue84, t51 := Tryz.underlying113, a51 := Tryz.isAgg113, z51 := Tryz.sizeOf113,
   v51 := Tryz.zeroValue113, t53 := Tryz.underlying115, a53 := Tryz.isAgg115, z53 := Tryz.sizeOf115,
   v53 := Tryz.zeroValue115, t131 := Tryz.underlying101, a131 := Tryz.isAgg101, z131 := Tryz.sizeOf101,
   v131 := Tryz.zeroValue101, t182 := Tryz.underlying106, a182 := Tryz.isAgg106, z182 := Tryz.sizeOf106,
   v182 := Tryz.zeroValue106, t183 := Tryz.underlying107, a183 := Tryz.isAgg107, z183 := Tryz.sizeOf107,
   v183 := Tryz.zeroValue107, t218 := Tryz.underlying121, a218 := Tryz.isAgg121, z218 := Tryz.sizeOf121,
   v218 := Tryz.zeroValue121, t222 := Tryz.underlying125, a222 := Tryz.isAgg125, z222 := Tryz.sizeOf125,
   v222 := Tryz.zeroValue125, t228 := Tryz.underlying131, a228 := Tryz.isAgg131, z228 := Tryz.sizeOf131,
   v228 := Tryz.zeroValue131, t229 := Tryz.underlying132, a229 := Tryz.isAgg132, z229 := Tryz.sizeOf132,
   v229 := Tryz.zeroValue132 }
def Tryz.laysCompact_ren : Go.Shelf.Ren :=
 {
   f := fun x =>
     match x with
     | 194 => 50
     | n => n,
   t := fun x =>
     match x with
     | 31 => 22
     | 9 => 9
     | 3 => 3
     | 4 => 4
     | 0 => 0
     | n => n,
   g := fun n => n }
theorem Tryz.laysCompact : Lays.n194 Tryz.prog Tryz.laysCompact_ren :=
 { mixed := by kernel_rfl, f194 := Eq.trans Tryz.func50 (congrArg some (Eq.refl (Body.n194 Tryz.laysCompact_ren))),
   t0 := Tryz.underlying0, a0 := Tryz.isAgg0, z0 := Tryz.sizeOf0, v0 := Tryz.zeroValue0, t3 := Tryz.underlying3,
   a3 := Tryz.isAgg3, z3 := Tryz.sizeOf3, v3 := Tryz.zeroValue3, t4 := Tryz.underlying4, a4 := Tryz.isAgg4,
   z4 := Tryz.sizeOf4, v4 := Tryz.zeroValue4, t9 := Tryz.underlying9, a9 := Tryz.isAgg9, z9 := Tryz.sizeOf9,
   v9 := Tryz.zeroValue9, t31 := Tryz.underlying22, a31 := Tryz.isAgg22, z31 := Tryz.sizeOf22, v31 := Tryz.zeroValue22 }
def Tryz.laysDel_ren : Go.Shelf.Ren :=
 {
   f := fun x =>
     match x with
     | 10 => 52
     | 6 => 77
     | n => n,
   t := fun x =>
     match x with
     | 22 => 22
     | 23 => 9
     | 25 => 65
     | 3 => 3
     | 4 => 4
     | 0 => 0
     | n => n,
   g := fun n => n }
theorem Tryz.laysDel : SlLaysH.n10 Tryz.prog Tryz.laysDel_ren :=
 { mixed := by kernel_rfl,
   f6 :=
     Exists.intro "slices.IndexFunc[[]string,string]"
       ⟨of_decide_eq_true (id (Eq.refl true)),
         Eq.trans Tryz.func77
           (congrArg some
             (Eq.refl
               { SlBodyH.n6 Tryz.laysDel_ren with name := "slices.IndexFunc[[]string,string]" }))⟩,
   f10 :=
     Exists.intro "slices.DeleteFunc[[]string,string]"
       ⟨of_decide_eq_true (id (Eq.refl true)),
         Eq.trans Tryz.func52
           (congrArg some
             (Eq.refl
               { SlBodyH.n10 Tryz.laysDel_ren with name := "slices.DeleteFunc[[]string,string]" }))⟩,
   t0 := Tryz.underlying0, a0 := Tryz.isAgg0, z0 := Tryz.sizeOf0, v0 := Tryz.zeroValue0, t3 := Tryz.underlying3,
   a3 := Tryz.isAgg3, z3 := Tryz.sizeOf3, v3 := Tryz.zeroValue3, t4 := Tryz.underlying4, a4 := Tryz.isAgg4,
   z4 := Tryz.sizeOf4, v4 := Tryz.zeroValue4, t22 := Tryz.underlying22, a22 := Tryz.isAgg22, z22 := Tryz.sizeOf22,
   v22 := Tryz.zeroValue22, a23 := Tryz.isAgg9, z23 := Tryz.sizeOf9, t25 := Tryz.underlying65, a25 := Tryz.isAgg65,
   z25 := Tryz.sizeOf65, v25 := Tryz.zeroValue65 }
end Go.Proofs
