/- A part of the proof; the last text states what is proved. -/
import Derived.Test.YtnendldalcpgeaaGreatDoorP3
import Derived.Test.YtnendldalcpgeaaGreatDoorProg
import Derived.IntWalk
import Derived.Shelf.Bits.Mul64
import Derived.Shelf.Slices.Clone
import Derived.Shelf.Slices.CompactS
import Derived.Shelf.Sort.Plain
import Derived.Shelf.SlicesE.DeleteFunc
import Derived.Lib.AtoiAll
import Derived.Lib.ItoaNum
import Derived.Shelf.Strconv.Itoa3
import Derived.Shelf.Strconv.AtoiAll
import Derived.Shelf.Strings.Cut
import Derived.Shelf.Strings.BuilderK
import Derived.Shelf.Strings.Builder2
import Derived.WalkKit
import Derived.BigCall
import Derived.OwnWalk
import Derived.Deep.QuietTactic
import Derived.BigQuiet
import Derived.Lib.IndexMore
import Derived.Shelf.Strings.Builder1
set_option linter.unusedVariables false
set_option linter.unusedSimpArgs false
set_option maxRecDepth 100000
namespace Go.Abs
open Go.Proofs
theorem uu {a b : AQ} (h : a = b) (P ts os Q) : awl P a Q ts os = awl P b Q ts os := h ▸ rfl
theorem vv {α : Type} {a b : α} (h : a = b) : a = b := h
def f10r1 : List AI := [⟨none, (.mov 55 (.t 0))⟩, ⟨none, (.len 56 (.t 55))⟩, ⟨none, (.bin 57 .leq (.t 56) (.v (.k (.c (.int .i64 5)))))⟩, ⟨none, (.mov 2 (.t 57))⟩]
def f10b2 : AQ := (.seq (.region f10r1) .ret)
def f10r3 : List AI := [⟨none, (.mov 13 (.t 3))⟩, ⟨none, (.bin 14 .add (.t 13) (.v (.k (.c (.int .i64 1)))))⟩, ⟨none, (.mov 3 (.t 14))⟩]
def f10r4 : List AI := [⟨none, (.mov 44 (.t 4))⟩, ⟨none, (.bin 45 .add (.t 44) (.v (.k (.c (.int .i64 1)))))⟩, ⟨none, (.mov 4 (.t 45))⟩]
def f10r5 : List AI := [⟨none, (.mov 2 (.v (.k (.c (.bool false)))))⟩]
def f10b6 : AQ := (.seq (.region f10r5) .ret)
def f10b7 : AQ := (.cond (.t 54) f10b6 .skip)
def f10r8 : List AI := [⟨none, (.mov 46 (.t 0))⟩, ⟨none, (.mov 47 (.t 3))⟩, ⟨none, (.iaddr 48 1 (.t 46) (.t 47))⟩, ⟨none, (.load 49 1 false (.t 48))⟩, ⟨none, (.mov 50 (.t 4))⟩, ⟨none, (.iaddr 51 1 (.t 49) (.t 50))⟩, ⟨none, (.load 52 1 false (.t 51))⟩, ⟨none, (.lenS 53 (.t 52))⟩, ⟨none, (.bin 54 .gtr (.t 53) (.v (.k (.c (.int .i64 60)))))⟩]
def f10b9 : AQ := (.seq (.region f10r8) f10b7)
def f10b10 : AQ := (.block 3 f10b9)
def f10b11 : AQ := (.seq f10b10 (.region f10r4))
def f10b12 : AQ := (.cond (.t 43) .skip (.exit 2))
def f10r13 : List AI := [⟨none, (.mov 37 (.t 4))⟩, ⟨none, (.mov 38 (.t 0))⟩, ⟨none, (.mov 39 (.t 3))⟩, ⟨none, (.iaddr 40 1 (.t 38) (.t 39))⟩, ⟨none, (.load 41 1 false (.t 40))⟩, ⟨none, (.len 42 (.t 41))⟩, ⟨none, (.bin 43 .lss (.t 37) (.t 42))⟩]
def f10b14 : AQ := (.seq (.region f10r13) f10b12)
def f10b15 : AQ := (.seq f10b14 f10b11)
def f10l16 : AQ := .loop [0, 3, 4] [] f10b15
def f10b17 : AQ := (.block 2 f10l16)
def f10r18 : List AI := [⟨none, (.mov 4 (.v (.k (.c (.int .i64 0)))))⟩]
def f10b19 : AQ := (.seq (.region f10r18) f10b17)
def f10r20 : List AI := [⟨none, (.mov 2 (.v (.k (.c (.bool false)))))⟩]
def f10b21 : AQ := (.seq (.region f10r20) .ret)
def f10b22 : AQ := (.cond (.t 36) f10b21 .skip)
def f10r23 : List AI := [⟨none, (.mov 15 (.t 0))⟩, ⟨none, (.mov 16 (.t 3))⟩, ⟨none, (.iaddr 17 1 (.t 15) (.t 16))⟩, ⟨none, (.load 18 1 false (.t 17))⟩, ⟨none, (.len 19 (.t 18))⟩, ⟨none, (.bin 20 .gtr (.t 19) (.v (.k (.c (.int .i64 20)))))⟩, ⟨none, (.mov 21 (.t 20))⟩, ⟨(some (21, true)), (.mov 22 (.t 0))⟩, ⟨(some (21, true)), (.mov 23 (.t 3))⟩, ⟨(some (21, true)), (.iaddr 24 1 (.t 22) (.t 23))⟩, ⟨(some (21, true)), (.load 25 1 false (.t 24))⟩, ⟨(some (21, true)), (.len 26 (.t 25))⟩, ⟨(some (21, true)), (.bin 27 .leq (.t 26) (.v (.k (.c (.int .i64 500)))))⟩, ⟨none, (.pick 28 (.t 21) (.t 27) (.v (.k (.c (.bool false)))))⟩, ⟨none, (.mov 29 (.t 28))⟩, ⟨(some (29, false)), (.mov 30 (.t 0))⟩, ⟨(some (29, false)), (.mov 31 (.t 3))⟩, ⟨(some (29, false)), (.iaddr 32 1 (.t 30) (.t 31))⟩, ⟨(some (29, false)), (.load 33 1 false (.t 32))⟩, ⟨(some (29, false)), (.len 34 (.t 33))⟩, ⟨(some (29, false)), (.bin 35 .gtr (.t 34) (.v (.k (.c (.int .i64 1000)))))⟩, ⟨none, (.pick 36 (.t 29) (.v (.k (.c (.bool true)))) (.t 35))⟩]
def f10b24 : AQ := (.seq (.region f10r23) f10b22)
def f10b25 : AQ := (.seq f10b24 f10b19)
def f10b26 : AQ := (.block 1 f10b25)
def f10b27 : AQ := (.seq f10b26 (.region f10r3))
def f10b28 : AQ := (.cond (.t 12) .skip (.exit 0))
def f10r29 : List AI := [⟨none, (.mov 5 (.t 3))⟩, ⟨none, (.mov 6 (.t 0))⟩, ⟨none, (.len 7 (.t 6))⟩, ⟨none, (.bin 8 .lss (.t 5) (.t 7))⟩, ⟨none, (.mov 9 (.t 8))⟩, ⟨(some (9, true)), (.mov 10 (.t 3))⟩, ⟨(some (9, true)), (.bin 11 .lss (.t 10) (.v (.k (.c (.int .i64 10)))))⟩, ⟨none, (.pick 12 (.t 9) (.t 11) (.v (.k (.c (.bool false)))))⟩]
def f10b30 : AQ := (.seq (.region f10r29) f10b28)
def f10b31 : AQ := (.seq f10b30 f10b27)
def f10l32 : AQ := .loop [0, 3] [] f10b31
def f10b33 : AQ := (.block 0 f10l32)
def f10r34 : List AI := [⟨none, (.mov 3 (.v (.k (.c (.int .i64 0)))))⟩]
def f10b35 : AQ := (.seq (.region f10r34) f10b33)
def f10b36 : AQ := (.seq f10b35 f10b2)
def f10r37 : List AI := [⟨none, (.mov 2 (.v (.k (.c (.bool false)))))⟩]
def f10b38 : AQ := (.seq (.region f10r37) f10b36)
def f10 : AQ := f10b38
def f11r1 : List AI := [⟨none, (.load 15 4 true (.t 4))⟩, ⟨none, (.call (some 16) 32 [(.t 15)])⟩, ⟨none, (.extr 17 (.t 16) 0)⟩, ⟨none, (.extr 18 (.t 16) 1)⟩, ⟨none, (.store 4 (.t 2) (.t 17))⟩, ⟨none, (.mov 3 (.t 18))⟩]
def f11b2 : AQ := (.seq (.region f11r1) .ret)
def f11r3 : List AI := [⟨none, (.build 13 [(.list 0 (some true) []), (.list 0 (some true) []), (.int .i64 0), (.bool false)] [])⟩, ⟨none, (.mov 14 (.t 5))⟩, ⟨none, (.store 4 (.t 2) (.t 13))⟩, ⟨none, (.mov 3 (.t 14))⟩]
def f11b4 : AQ := (.seq (.region f11r3) .ret)
def f11b5 : AQ := (.cond (.t 12) f11b4 .skip)
def f11r6 : List AI := [⟨none, (.mov 11 (.t 5))⟩, ⟨none, (.bin 12 .neq (.t 11) (.v (.k (.c (.int .i64 0)))))⟩]
def f11b7 : AQ := (.seq (.region f11r6) f11b5)
def f11b8 : AQ := (.seq f11b7 f11b2)
def f11r9 : List AI := [⟨none, (.mov 7 (.t 0))⟩, ⟨none, (.call (some 8) 31 [(.t 7)])⟩, ⟨none, (.mov 6 (.t 8))⟩, ⟨none, (.extr 9 (.t 6) 0)⟩, ⟨none, (.extr 10 (.t 6) 1)⟩, ⟨none, (.alloc 4 25 [(.list 0 (some true) []), (.list 0 (some true) []), (.int .i64 0), (.bool false)])⟩, ⟨none, (.store 4 (.t 4) (.t 9))⟩, ⟨none, (.mov 5 (.t 10))⟩]
def f11b10 : AQ := (.seq (.region f11r9) f11b8)
def f11r11 : List AI := [⟨none, (.alloc 2 25 [(.list 0 (some true) []), (.list 0 (some true) []), (.int .i64 0), (.bool false)])⟩, ⟨none, (.mov 3 (.v (.k (.c (.int .i64 0)))))⟩]
def f11b12 : AQ := (.seq (.region f11r11) f11b10)
def f11 : AQ := f11b12
theorem hf11 : cFunc Tryz.prog 11 = some ⟨19, f11.erase, [(RX.cell 2 4 true), (RX.t 3)]⟩ := by kernel_rfl
theorem okf11 : f11.ok = true := by kernel_rfl
def f14r1 : List AI := [⟨none, (.load 29 4 true (.t 2))⟩, ⟨none, (.mov 30 (.t 1))⟩, ⟨none, (.call (some 31) 39 [(.t 29), (.t 30)])⟩, ⟨none, (.extr 32 (.t 31) 0)⟩, ⟨none, (.extr 33 (.t 31) 1)⟩, ⟨none, (.store 4 (.t 4) (.t 32))⟩, ⟨none, (.mov 5 (.t 33))⟩]
def f14b2 : AQ := (.seq (.region f14r1) .ret)
def f14r3 : List AI := [⟨none, (.load 28 4 true (.t 2))⟩, ⟨none, (.store 4 (.t 4) (.t 28))⟩, ⟨none, (.mov 5 (.v (.k (.c (.int .i64 5)))))⟩]
def f14b4 : AQ := (.seq (.region f14r3) .ret)
def f14r5 : List AI := [⟨none, (.faddr 20 0 (.t 2))⟩, ⟨none, (.load 21 1 false (.t 20))⟩, ⟨none, (.call (some 22) 37 [(.t 21)])⟩, ⟨none, (.faddr 23 1 (.t 2))⟩, ⟨none, (.load 24 1 false (.t 23))⟩, ⟨none, (.call (some 25) 38 [(.t 24)])⟩, ⟨none, (.faddr 26 0 (.t 2))⟩, ⟨none, (.store 1 (.t 26) (.t 22))⟩, ⟨none, (.faddr 27 1 (.t 2))⟩, ⟨none, (.store 1 (.t 27) (.t 25))⟩]
def f14b6 : AQ := (.seq (.draw f14r5 [[], [0], [1], [], [3], [4, 2], [0, 1, 2, 3, 4], [6, 2, 5, 0, 1, 2, 3, 4], [0, 1, 2, 3, 4, 5, 6, 7], [8, 5, 7, 0, 1, 2, 3, 4, 5, 6, 7]]) f14b4)
def f14b7 : AQ := (.cond (.t 19) f14b6 .skip)
def f14r8 : List AI := [⟨none, (.mov 17 (.t 6))⟩, ⟨none, (.mov 18 (.t 1))⟩, ⟨none, (.call (some 19) 36 [(.t 17), (.t 18)])⟩]
def f14b9 : AQ := (.seq (.region f14r8) f14b7)
def f14b10 : AQ := (.seq f14b9 f14b2)
def f14r11 : List AI := [⟨none, (.build 15 [(.list 0 (some true) []), (.list 0 (some true) []), (.int .i64 0), (.bool false)] [])⟩, ⟨none, (.mov 16 (.t 7))⟩, ⟨none, (.store 4 (.t 4) (.t 15))⟩, ⟨none, (.mov 5 (.t 16))⟩]
def f14b12 : AQ := (.seq (.region f14r11) .ret)
def f14b13 : AQ := (.cond (.t 14) f14b12 .skip)
def f14r14 : List AI := [⟨none, (.mov 13 (.t 7))⟩, ⟨none, (.bin 14 .neq (.t 13) (.v (.k (.c (.int .i64 0)))))⟩]
def f14b15 : AQ := (.seq (.region f14r14) f14b13)
def f14b16 : AQ := (.seq f14b15 f14b10)
def f14r17 : List AI := [⟨none, (.load 9 4 true (.t 2))⟩, ⟨none, (.call (some 10) 35 [(.t 9)])⟩, ⟨none, (.mov 8 (.t 10))⟩, ⟨none, (.extr 11 (.t 8) 0)⟩, ⟨none, (.extr 12 (.t 8) 1)⟩, ⟨none, (.mov 6 (.t 11))⟩, ⟨none, (.mov 7 (.t 12))⟩]
def f14b18 : AQ := (.seq (.region f14r17) f14b16)
def f14r19 : List AI := [⟨none, (.box 2 25 (.t 0))⟩, ⟨none, (.alloc 4 25 [(.list 0 (some true) []), (.list 0 (some true) []), (.int .i64 0), (.bool false)])⟩, ⟨none, (.mov 5 (.v (.k (.c (.int .i64 0)))))⟩]
def f14b20 : AQ := (.seq (.region f14r19) f14b18)
def f14 : AQ := f14b20
theorem hf14 : cFunc Tryz.prog 14 = some ⟨34, f14.erase, [(RX.cell 4 4 true), (RX.t 5)]⟩ := by kernel_rfl
theorem okf14 : f14.ok = true := by kernel_rfl
def f16r1 : List AI := [⟨none, (.load 4 4 true (.t 1))⟩, ⟨none, (.call (some 5) 41 [(.t 4)])⟩, ⟨none, (.extr 6 (.t 5) 0)⟩, ⟨none, (.extr 7 (.t 5) 1)⟩, ⟨none, (.store 4 (.t 2) (.t 6))⟩, ⟨none, (.mov 3 (.t 7))⟩]
def f16b2 : AQ := (.seq (.region f16r1) .ret)
def f16r3 : List AI := [⟨none, (.box 1 25 (.t 0))⟩, ⟨none, (.alloc 2 25 [(.list 0 (some true) []), (.list 0 (some true) []), (.int .i64 0), (.bool false)])⟩, ⟨none, (.mov 3 (.v (.k (.c (.int .i64 0)))))⟩]
def f16b4 : AQ := (.seq (.region f16r3) f16b2)
def f16 : AQ := f16b4
theorem hf16 : cFunc Tryz.prog 16 = some ⟨8, f16.erase, [(RX.cell 2 4 true), (RX.t 3)]⟩ := by kernel_rfl
theorem okf16 : f16.ok = true := by kernel_rfl
def f18r1 : List AI := [⟨none, (.load 4 4 true (.t 1))⟩, ⟨none, (.call (some 5) 35 [(.t 4)])⟩, ⟨none, (.extr 6 (.t 5) 0)⟩, ⟨none, (.extr 7 (.t 5) 1)⟩, ⟨none, (.mov 2 (.t 6))⟩, ⟨none, (.mov 3 (.t 7))⟩]
def f18b2 : AQ := (.seq (.region f18r1) .ret)
def f18r3 : List AI := [⟨none, (.box 1 25 (.t 0))⟩, ⟨none, (.nilL 2 9 1)⟩, ⟨none, (.mov 3 (.v (.k (.c (.int .i64 0)))))⟩]
def f18b4 : AQ := (.seq (.region f18r3) f18b2)
def f18 : AQ := f18b4
theorem hf18 : cFunc Tryz.prog 18 = some ⟨8, f18.erase, [(RX.t 2), (RX.t 3)]⟩ := by kernel_rfl
theorem okf18 : f18.ok = true := by kernel_rfl
def f20r1 : List AI := [⟨none, (.mov 4 (.v (.k (.c (.bool true)))))⟩]
def f20b2 : AQ := (.seq (.region f20r1) .ret)
def f20r3 : List AI := [⟨none, (.mov 15 (.t 5))⟩, ⟨none, (.bin 16 .add (.t 15) (.v (.k (.c (.int .i64 1)))))⟩, ⟨none, (.mov 5 (.t 16))⟩]
def f20r4 : List AI := [⟨none, (.mov 4 (.v (.k (.c (.bool false)))))⟩]
def f20b5 : AQ := (.seq (.region f20r4) .ret)
def f20b6 : AQ := (.cond (.t 25) f20b5 .skip)
def f20r7 : List AI := [⟨none, (.mov 17 (.t 0))⟩, ⟨none, (.mov 18 (.t 5))⟩, ⟨none, (.iaddr 19 1 (.t 17) (.t 18))⟩, ⟨none, (.load 20 1 false (.t 19))⟩, ⟨none, (.mov 21 (.t 1))⟩, ⟨none, (.mov 22 (.t 5))⟩, ⟨none, (.iaddr 23 1 (.t 21) (.t 22))⟩, ⟨none, (.load 24 1 false (.t 23))⟩, ⟨none, (.bin 25 .neq (.t 20) (.t 24))⟩]
def f20b8 : AQ := (.seq (.draw f20r7 [[], [], [0, 1], [2], [], [], [4, 5], [6], [3, 7]]) f20b6)
def f20b9 : AQ := (.block 1 f20b8)
def f20b10 : AQ := (.seq f20b9 (.region f20r3))
def f20b11 : AQ := (.cond (.t 14) .skip (.exit 0))
def f20r12 : List AI := [⟨none, (.mov 11 (.t 5))⟩, ⟨none, (.mov 12 (.t 0))⟩, ⟨none, (.len 13 (.t 12))⟩, ⟨none, (.bin 14 .lss (.t 11) (.t 13))⟩]
def f20b13 : AQ := (.seq (.region f20r12) f20b11)
def f20b14 : AQ := (.seq f20b13 f20b10)
def f20l15 : AQ := .loop [0, 1, 5] [] f20b14
theorem uf20l15 (P ts os Q) : awl P f20l15 Q ts os = awl P (.loop [0, 1, 5] [] f20b14) Q ts os := id rfl
def f20b16 : AQ := (.block 0 f20l15)
def f20r17 : List AI := [⟨none, (.mov 5 (.v (.k (.c (.int .i64 0)))))⟩]
def f20b18 : AQ := (.seq (.region f20r17) f20b16)
def f20b19 : AQ := (.seq f20b18 f20b2)
def f20r20 : List AI := [⟨none, (.mov 4 (.v (.k (.c (.bool false)))))⟩]
def f20b21 : AQ := (.seq (.region f20r20) .ret)
def f20b22 : AQ := (.cond (.t 10) f20b21 .skip)
def f20r23 : List AI := [⟨none, (.mov 6 (.t 0))⟩, ⟨none, (.len 7 (.t 6))⟩, ⟨none, (.mov 8 (.t 1))⟩, ⟨none, (.len 9 (.t 8))⟩, ⟨none, (.bin 10 .neq (.t 7) (.t 9))⟩]
def f20b24 : AQ := (.seq (.region f20r23) f20b22)
def f20b25 : AQ := (.seq f20b24 f20b19)
def f20r26 : List AI := [⟨none, (.mov 4 (.v (.k (.c (.bool false)))))⟩]
def f20b27 : AQ := (.seq (.region f20r26) f20b25)
def f20 : AQ := f20b27
theorem hf20 : cFunc Tryz.prog 20 = some ⟨26, f20.erase, [(RX.t 4)]⟩ := by kernel_rfl
theorem okf20 : f20.ok = true := by kernel_rfl
def f22r1 : List AI := [⟨none, (.mov 54 (.t 3))⟩, ⟨none, (.mov 2 (.t 54))⟩]
def f22b2 : AQ := (.seq (.region f22r1) .ret)
def f22r3 : List AI := [⟨none, (.mov 14 (.t 4))⟩, ⟨none, (.bin 15 .add (.t 14) (.v (.k (.c (.int .i64 1)))))⟩, ⟨none, (.mov 4 (.t 15))⟩]
def f22r4 : List AI := [⟨none, (.mov 22 (.t 5))⟩, ⟨none, (.bin 23 .add (.t 22) (.v (.k (.c (.int .i64 1)))))⟩, ⟨none, (.mov 5 (.t 23))⟩]
def f22r5 : List AI := [⟨none, (.mov 31 (.t 6))⟩, ⟨none, (.bin 32 .add (.t 31) (.v (.k (.c (.int .i64 1)))))⟩, ⟨none, (.mov 6 (.t 32))⟩]
def f22r6 : List AI := [⟨none, (.mov 45 (.t 3))⟩, ⟨none, (.mov 46 (.t 0))⟩, ⟨none, (.mov 47 (.t 4))⟩, ⟨none, (.iaddr 48 1 (.t 46) (.t 47))⟩, ⟨none, (.load 49 1 false (.t 48))⟩, ⟨none, (.mov 50 (.t 6))⟩, ⟨none, (.iaddr 51 1 (.t 49) (.t 50))⟩, ⟨none, (.load 52 1 false (.t 51))⟩, ⟨none, (.call (some 53) 51 [(.t 45), (.t 52)])⟩, ⟨none, (.mov 3 (.t 53))⟩]
def f22b7 : AQ := (.cond (.t 44) (.region f22r6) .skip)
def f22r8 : List AI := [⟨none, (.mov 33 (.t 0))⟩, ⟨none, (.mov 34 (.t 5))⟩, ⟨none, (.iaddr 35 1 (.t 33) (.t 34))⟩, ⟨none, (.load 36 1 false (.t 35))⟩, ⟨none, (.mov 37 (.t 0))⟩, ⟨none, (.mov 38 (.t 4))⟩, ⟨none, (.iaddr 39 1 (.t 37) (.t 38))⟩, ⟨none, (.load 40 1 false (.t 39))⟩, ⟨none, (.mov 41 (.t 6))⟩, ⟨none, (.iaddr 42 1 (.t 40) (.t 41))⟩, ⟨none, (.load 43 1 false (.t 42))⟩, ⟨none, (.call (some 44) 27 [(.t 36), (.t 43)])⟩]
def f22b9 : AQ := (.seq (.draw f22r8 [[], [], [0, 1], [2], [], [], [4, 5], [6], [], [7, 8], [9], [3, 10]]) f22b7)
def f22b10 : AQ := (.block 5 f22b9)
def f22b11 : AQ := (.seq f22b10 (.frz 53 (.region f22r5)))
def f22b12 : AQ := (.cond (.t 30) .skip (.exit 4))
def f22r13 : List AI := [⟨none, (.mov 24 (.t 6))⟩, ⟨none, (.mov 25 (.t 0))⟩, ⟨none, (.mov 26 (.t 4))⟩, ⟨none, (.iaddr 27 1 (.t 25) (.t 26))⟩, ⟨none, (.load 28 1 false (.t 27))⟩, ⟨none, (.len 29 (.t 28))⟩, ⟨none, (.bin 30 .lss (.t 24) (.t 29))⟩]
def f22b14 : AQ := (.seq (.region f22r13) f22b12)
def f22b15 : AQ := (.seq f22b14 f22b11)
def f22l16 : AQ := .loop [0, 3, 4, 5, 6] [3, 53, 54000, 54001, 54002] f22b15
theorem uf22l16 (P ts os Q) : awl P f22l16 Q ts os = awl P (.loop [0, 3, 4, 5, 6] [3, 53, 54000, 54001, 54002] f22b15) Q ts os := id rfl
def f22b17 : AQ := (.block 4 f22l16)
def f22r18 : List AI := [⟨none, (.mov 6 (.v (.k (.c (.int .i64 0)))))⟩]
def f22b19 : AQ := (.seq (.region f22r18) f22b17)
def f22b20 : AQ := (.block 3 f22b19)
def f22b21 : AQ := (.seq f22b20 (.region f22r4))
def f22b22 : AQ := (.cond (.t 21) .skip (.exit 2))
def f22r23 : List AI := [⟨none, (.mov 18 (.t 5))⟩, ⟨none, (.mov 19 (.t 0))⟩, ⟨none, (.len 20 (.t 19))⟩, ⟨none, (.bin 21 .lss (.t 18) (.t 20))⟩]
def f22b24 : AQ := (.seq (.region f22r23) f22b22)
def f22b25 : AQ := (.seq f22b24 f22b21)
def f22l26 : AQ := .loop [0, 3, 4, 5] [3, 53, 54000, 54001, 54002] f22b25
theorem uf22l26 (P ts os Q) : awl P f22l26 Q ts os = awl P (.loop [0, 3, 4, 5] [3, 53, 54000, 54001, 54002] f22b25) Q ts os := id rfl
def f22b27 : AQ := (.block 2 f22l26)
def f22r28 : List AI := [⟨none, (.mov 16 (.t 4))⟩, ⟨none, (.bin 17 .add (.t 16) (.v (.k (.c (.int .i64 1)))))⟩, ⟨none, (.mov 5 (.t 17))⟩]
def f22b29 : AQ := (.seq (.region f22r28) f22b27)
def f22b30 : AQ := (.block 1 f22b29)
def f22b31 : AQ := (.seq f22b30 (.region f22r3))
def f22b32 : AQ := (.cond (.t 13) .skip (.exit 0))
def f22r33 : List AI := [⟨none, (.mov 10 (.t 4))⟩, ⟨none, (.mov 11 (.t 0))⟩, ⟨none, (.len 12 (.t 11))⟩, ⟨none, (.bin 13 .lss (.t 10) (.t 12))⟩]
def f22b34 : AQ := (.seq (.region f22r33) f22b32)
def f22b35 : AQ := (.seq f22b34 f22b31)
def f22l36 : AQ := .loop [0, 3, 4] [3, 53, 54000, 54001, 54002] f22b35
theorem uf22l36 (P ts os Q) : awl P f22l36 Q ts os = awl P (.loop [0, 3, 4] [3, 53, 54000, 54001, 54002] f22b35) Q ts os := id rfl
def f22b37 : AQ := (.block 0 f22l36)
def f22r38 : List AI := [⟨none, (.mov 4 (.v (.k (.c (.int .i64 0)))))⟩]
def f22b39 : AQ := (.seq (.region f22r38) f22b37)
def f22b40 : AQ := (.seq f22b39 f22b2)
def f22r41 : List AI := [⟨none, (.nilL 2 9 1)⟩]
def f22b42 : AQ := (.seq (.region f22r41) .ret)
def f22b43 : AQ := (.cond (.t 9) f22b42 .skip)
def f22r44 : List AI := [⟨none, (.mov 7 (.t 0))⟩, ⟨none, (.call (some 8) 29 [(.t 7)])⟩, ⟨none, (.un 9 .not (.t 8))⟩]
def f22b45 : AQ := (.seq (.region f22r44) f22b43)
def f22b46 : AQ := (.seq f22b45 f22b40)
def f22r47 : List AI := [⟨none, (.nilL 3 9 1)⟩]
def f22b48 : AQ := (.seq (.region f22r47) (.frz 3 f22b46))
def f22r49 : List AI := [⟨none, (.nilL 2 9 1)⟩]
def f22b50 : AQ := (.seq (.region f22r49) f22b48)
def f22 : AQ := f22b50
theorem hf22 : cFunc Tryz.prog 22 = some ⟨55, f22.erase, [(RX.t 2)]⟩ := by kernel_rfl
theorem okf22 : f22.ok = true := by kernel_rfl
def f24r1 : List AI := [⟨none, (.mov 41 (.t 6))⟩, ⟨none, (.mov 4 (.t 41))⟩]
def f24b2 : AQ := (.seq (.region f24r1) .ret)
def f24r3 : List AI := [⟨none, (.mov 22 (.t 7))⟩, ⟨none, (.bin 23 .add (.t 22) (.v (.k (.c (.int .i64 1)))))⟩, ⟨none, (.mov 7 (.t 23))⟩]
def f24r4 : List AI := [⟨none, (.mov 34 (.t 6))⟩, ⟨none, (.mov 35 (.t 5))⟩, ⟨none, (.mov 36 (.t 7))⟩, ⟨none, (.iaddr 37 1 (.t 35) (.t 36))⟩, ⟨none, (.load 38 1 false (.t 37))⟩, ⟨none, (.bslice 39 9 1 [(.str [])] 1 [(0, (.t 38))])⟩, ⟨none, (.append 40 9 1 16 (.t 34) (.t 39))⟩, ⟨none, (.mov 6 (.t 40))⟩]
def f24b5 : AQ := (.cond (.t 33) (.region f24r4) .skip)
def f24r6 : List AI := [⟨none, (.mov 24 (.t 0))⟩, ⟨none, (.mov 25 (.t 1))⟩, ⟨none, (.iaddr 26 1 (.t 24) (.t 25))⟩, ⟨none, (.load 27 1 false (.t 26))⟩, ⟨none, (.mov 28 (.t 5))⟩, ⟨none, (.mov 29 (.t 7))⟩, ⟨none, (.iaddr 30 1 (.t 28) (.t 29))⟩, ⟨none, (.load 31 1 false (.t 30))⟩, ⟨none, (.call (some 32) 27 [(.t 27), (.t 31)])⟩, ⟨none, (.un 33 .not (.t 32))⟩]
def f24b7 : AQ := (.seq (.draw f24r6 [[], [], [0, 1], [2], [], [], [4, 5], [6], [3, 7], [8]]) f24b5)
def f24b8 : AQ := (.block 1 f24b7)
def f24b9 : AQ := (.seq f24b8 (.region f24r3))
def f24b10 : AQ := (.cond (.t 21) .skip (.exit 0))
def f24r11 : List AI := [⟨none, (.mov 18 (.t 7))⟩, ⟨none, (.mov 19 (.t 5))⟩, ⟨none, (.len 20 (.t 19))⟩, ⟨none, (.bin 21 .lss (.t 18) (.t 20))⟩]
def f24b12 : AQ := (.seq (.region f24r11) f24b10)
def f24b13 : AQ := (.seq f24b12 f24b9)
def f24l14 : AQ := .loop [0, 1, 5, 6, 7] [6, 17, 40, 18000, 18001, 18002] f24b13
theorem uf24l14 (P ts os Q) : awl P f24l14 Q ts os = awl P (.loop [0, 1, 5, 6, 7] [6, 17, 40, 18000, 18001, 18002] f24b13) Q ts os := id rfl
def f24b15 : AQ := (.block 0 f24l14)
def f24r16 : List AI := [⟨none, (.mov 7 (.v (.k (.c (.int .i64 0)))))⟩]
def f24b17 : AQ := (.seq (.region f24r16) f24b15)
def f24b18 : AQ := (.seq f24b17 f24b2)
def f24r19 : List AI := [⟨none, (.nilL 6 9 1)⟩]
def f24b20 : AQ := (.seq (.region f24r19) f24b18)
def f24r21 : List AI := [⟨none, (.mov 16 (.t 0))⟩, ⟨none, (.call (some 17) 22 [(.t 16)])⟩, ⟨none, (.mov 5 (.t 17))⟩]
def f24b22 : AQ := (.seq (.region f24r21) f24b20)
def f24r23 : List AI := [⟨none, (.nilL 4 9 1)⟩]
def f24b24 : AQ := (.seq (.region f24r23) .ret)
def f24b25 : AQ := (.cond (.t 15) f24b24 .skip)
def f24r26 : List AI := [⟨none, (.mov 8 (.t 1))⟩, ⟨none, (.bin 9 .lss (.t 8) (.v (.k (.c (.int .i64 0)))))⟩, ⟨none, (.mov 10 (.t 9))⟩, ⟨(some (10, false)), (.mov 11 (.t 1))⟩, ⟨(some (10, false)), (.mov 12 (.t 0))⟩, ⟨(some (10, false)), (.len 13 (.t 12))⟩, ⟨(some (10, false)), (.bin 14 .geq (.t 11) (.t 13))⟩, ⟨none, (.pick 15 (.t 10) (.v (.k (.c (.bool true)))) (.t 14))⟩]
def f24b27 : AQ := (.seq (.region f24r26) f24b25)
def f24b28 : AQ := (.seq f24b27 f24b22)
def f24r29 : List AI := [⟨none, (.nilL 4 9 1)⟩]
def f24b30 : AQ := (.seq (.region f24r29) f24b28)
def f24 : AQ := f24b30
theorem hf24 : cFunc Tryz.prog 24 = some ⟨42, f24.erase, [(RX.t 4)]⟩ := by kernel_rfl
theorem okf24 : f24.ok = true := by kernel_rfl
def f25r1 : List AI := [⟨none, (.load 49 4 true (.t 2))⟩, ⟨none, (.mov 50 (.t 7))⟩, ⟨none, (.store 4 (.t 4) (.t 49))⟩, ⟨none, (.mov 5 (.t 50))⟩, ⟨none, (.mov 6 (.v (.k (.c (.int .i64 0)))))⟩]
def f25b2 : AQ := (.seq (.region f25r1) .ret)
def f25r3 : List AI := [⟨none, (.bin 48 .add (.t 14) (.v (.k (.c (.int .i64 1)))))⟩, ⟨none, (.mov 14 (.t 48))⟩]
def f25r4 : List AI := [⟨none, (.mov 28 (.t 7))⟩, ⟨none, (.bin 29 .add (.t 28) (.v (.k (.c (.int .i64 1)))))⟩, ⟨none, (.mov 7 (.t 29))⟩]
def f25r5 : List AI := [⟨none, (.load 27 4 true (.t 10))⟩, ⟨none, (.store 4 (.t 2) (.t 27))⟩]
def f25b6 : AQ := (.seq (.region f25r5) (.region f25r4))
def f25r7 : List AI := [⟨none, (.load 39 4 true (.t 10))⟩, ⟨none, (.mov 40 (.t 7))⟩, ⟨none, (.mov 41 (.t 11))⟩, ⟨none, (.store 4 (.t 4) (.t 39))⟩, ⟨none, (.mov 5 (.t 40))⟩, ⟨none, (.mov 6 (.t 41))⟩]
def f25b8 : AQ := (.seq (.region f25r7) .ret)
def f25r9 : List AI := [⟨none, (.load 45 4 true (.t 2))⟩, ⟨none, (.mov 46 (.t 7))⟩, ⟨none, (.mov 47 (.t 11))⟩, ⟨none, (.store 4 (.t 4) (.t 45))⟩, ⟨none, (.mov 5 (.t 46))⟩, ⟨none, (.mov 6 (.t 47))⟩]
def f25b10 : AQ := (.seq (.region f25r9) .ret)
def f25b11 : AQ := (.cond (.t 42) f25b10 .skip)
def f25r12 : List AI := [⟨none, (.mov 43 (.t 11))⟩, ⟨none, (.bin 44 .neq (.t 43) (.v (.k (.c (.int .i64 5)))))⟩, ⟨none, (.mov 42 (.t 44))⟩]
def f25b13 : AQ := (.seq (.region f25r12) f25b11)
def f25b14 : AQ := (.cond (.t 30) f25b8 f25b13)
def f25r15 : List AI := [⟨none, (.mov 31 (.t 11))⟩, ⟨none, (.bin 32 .eql (.t 31) (.v (.k (.c (.int .i64 8)))))⟩, ⟨none, (.mov 33 (.t 32))⟩, ⟨(some (33, true)), (.faddr 34 0 (.t 10))⟩, ⟨(some (33, true)), (.load 35 1 false (.t 34))⟩, ⟨(some (33, true)), (.len 36 (.t 35))⟩, ⟨(some (33, true)), (.bin 37 .gtr (.t 36) (.v (.k (.c (.int .i64 0)))))⟩, ⟨none, (.pick 38 (.t 33) (.t 37) (.v (.k (.c (.bool false)))))⟩, ⟨none, (.mov 30 (.t 38))⟩]
def f25b16 : AQ := (.seq (.region f25r15) f25b14)
def f25b17 : AQ := (.cond (.t 24) f25b6 f25b16)
def f25r18 : List AI := [⟨none, (.mov 25 (.t 11))⟩, ⟨none, (.bin 26 .eql (.t 25) (.v (.k (.c (.int .i64 0)))))⟩, ⟨none, (.mov 24 (.t 26))⟩]
def f25b19 : AQ := (.seq (.region f25r18) f25b17)
def f25b20 : AQ := (.block 2 f25b19)
def f25r21 : List AI := [⟨none, (.load 19 4 true (.t 2))⟩, ⟨none, (.mov 20 (.t 9))⟩, ⟨none, (.call (some 21) 14 [(.t 19), (.t 20)])⟩, ⟨none, (.mov 18 (.t 21))⟩, ⟨none, (.extr 22 (.t 18) 0)⟩, ⟨none, (.extr 23 (.t 18) 1)⟩, ⟨none, (.alloc 10 25 [(.list 0 (some true) []), (.list 0 (some true) []), (.int .i64 0), (.bool false)])⟩, ⟨none, (.store 4 (.t 10) (.t 22))⟩, ⟨none, (.mov 11 (.t 23))⟩]
def f25b22 : AQ := (.seq (.region f25r21) f25b20)
def f25r23 : List AI := [⟨none, (.iaddr 16 1 (.t 12) (.t 14))⟩, ⟨none, (.load 17 1 false (.t 16))⟩, ⟨none, (.mov 9 (.t 17))⟩]
def f25b24 : AQ := (.seq (.region f25r23) f25b22)
def f25b25 : AQ := (.block 1 f25b24)
def f25b26 : AQ := (.seq f25b25 (.region f25r3))
def f25b27 : AQ := (.cond (.t 15) .skip (.exit 0))
def f25b28 : AQ := (.seq f25b27 f25b26)
def f25r29 : List AI := [⟨none, (.bin 15 .lss (.t 14) (.t 13))⟩]
def f25b30 : AQ := (.seq (.region f25r29) f25b28)
def f25l31 : AQ := .loop [2, 4, 7, 12, 13, 14] [2, 4, 21, 22000, 22001, 22002] f25b30
theorem uf25l31 (P ts os Q) : awl P f25l31 Q ts os = awl P (.loop [2, 4, 7, 12, 13, 14] [2, 4, 21, 22000, 22001, 22002] f25b30) Q ts os := id rfl
def f25b32 : AQ := (.block 0 f25l31)
def f25r33 : List AI := [⟨none, (.mov 12 (.t 1))⟩, ⟨none, (.len 13 (.t 12))⟩, ⟨none, (.mov 14 (.v (.k (.c (.int .i64 0)))))⟩]
def f25b34 : AQ := (.seq (.region f25r33) f25b32)
def f25b35 : AQ := (.seq f25b34 f25b2)
def f25r36 : List AI := [⟨none, (.mov 7 (.v (.k (.c (.int .i64 0)))))⟩]
def f25b37 : AQ := (.seq (.region f25r36) f25b35)
def f25r38 : List AI := [⟨none, (.box 2 25 (.t 0))⟩, ⟨none, (.alloc 4 25 [(.list 0 (some true) []), (.list 0 (some true) []), (.int .i64 0), (.bool false)])⟩, ⟨none, (.mov 5 (.v (.k (.c (.int .i64 0)))))⟩, ⟨none, (.mov 6 (.v (.k (.c (.int .i64 0)))))⟩]
def f25b39 : AQ := (.seq (.region f25r38) f25b37)
def f25 : AQ := f25b39
theorem hf25 : cFunc Tryz.prog 25 = some ⟨51, f25.erase, [(RX.cell 4 4 true), (RX.t 5), (RX.t 6)]⟩ := by kernel_rfl
theorem okf25 : f25.ok = true := by kernel_rfl
def f27r1 : List AI := [⟨none, (.mov 4 (.v (.k (.c (.bool false)))))⟩]
def f27b2 : AQ := (.seq (.region f27r1) .ret)
def f27r3 : List AI := [⟨none, (.mov 10 (.t 5))⟩, ⟨none, (.bin 11 .add (.t 10) (.v (.k (.c (.int .i64 1)))))⟩, ⟨none, (.mov 5 (.t 11))⟩]
def f27r4 : List AI := [⟨none, (.mov 4 (.v (.k (.c (.bool true)))))⟩]
def f27b5 : AQ := (.seq (.region f27r4) .ret)
def f27b6 : AQ := (.cond (.t 17) f27b5 .skip)
def f27r7 : List AI := [⟨none, (.mov 12 (.t 0))⟩, ⟨none, (.mov 13 (.t 5))⟩, ⟨none, (.iaddr 14 1 (.t 12) (.t 13))⟩, ⟨none, (.load 15 1 false (.t 14))⟩, ⟨none, (.mov 16 (.t 1))⟩, ⟨none, (.bin 17 .eql (.t 15) (.t 16))⟩]
def f27b8 : AQ := (.seq (.region f27r7) f27b6)
def f27b9 : AQ := (.block 1 f27b8)
def f27b10 : AQ := (.seq f27b9 (.region f27r3))
def f27b11 : AQ := (.cond (.t 9) .skip (.exit 0))
def f27r12 : List AI := [⟨none, (.mov 6 (.t 5))⟩, ⟨none, (.mov 7 (.t 0))⟩, ⟨none, (.len 8 (.t 7))⟩, ⟨none, (.bin 9 .lss (.t 6) (.t 8))⟩]
def f27b13 : AQ := (.seq (.region f27r12) f27b11)
def f27b14 : AQ := (.seq f27b13 f27b10)
def f27l15 : AQ := .loop [0, 1, 5] [] f27b14
theorem uf27l15 (P ts os Q) : awl P f27l15 Q ts os = awl P (.loop [0, 1, 5] [] f27b14) Q ts os := id rfl
def f27b16 : AQ := (.block 0 f27l15)
def f27r17 : List AI := [⟨none, (.mov 5 (.v (.k (.c (.int .i64 0)))))⟩]
def f27b18 : AQ := (.seq (.region f27r17) f27b16)
def f27b19 : AQ := (.seq f27b18 f27b2)
def f27r20 : List AI := [⟨none, (.mov 4 (.v (.k (.c (.bool false)))))⟩]
def f27b21 : AQ := (.seq (.region f27r20) f27b19)
def f27 : AQ := f27b21
theorem hf27 : cFunc Tryz.prog 27 = some ⟨18, f27.erase, [(RX.t 4)]⟩ := by kernel_rfl
theorem okf27 : f27.ok = true := by kernel_rfl
def f28r1 : List AI := [⟨none, (.load 24 4 true (.t 2))⟩, ⟨none, (.store 4 (.t 4) (.t 24))⟩, ⟨none, (.mov 5 (.v (.k (.c (.int .i64 0)))))⟩]
def f28b2 : AQ := (.seq (.region f28r1) .ret)
def f28r3 : List AI := [⟨none, (.mov 22 (.t 1))⟩, ⟨none, (.faddr 23 2 (.t 2))⟩, ⟨none, (.store 1 (.t 23) (.t 22))⟩]
def f28b4 : AQ := (.seq (.region f28r3) f28b2)
def f28r5 : List AI := [⟨none, (.load 20 4 true (.t 2))⟩, ⟨none, (.call (some 21) 55 [(.t 20)])⟩, ⟨none, (.store 4 (.t 2) (.t 21))⟩]
def f28b6 : AQ := (.seq (.region f28r5) f28b4)
def f28r7 : List AI := [⟨none, (.build 19 [(.list 0 (some true) []), (.list 0 (some true) []), (.int .i64 0), (.bool false)] [])⟩, ⟨none, (.store 4 (.t 4) (.t 19))⟩, ⟨none, (.mov 5 (.v (.k (.c (.int .i64 1)))))⟩]
def f28b8 : AQ := (.seq (.region f28r7) .ret)
def f28b9 : AQ := (.cond (.t 18) f28b8 .skip)
def f28r10 : List AI := [⟨none, (.mov 13 (.t 1))⟩, ⟨none, (.bin 14 .lss (.t 13) (.v (.k (.c (.int .i64 0)))))⟩, ⟨none, (.mov 15 (.t 14))⟩, ⟨(some (15, false)), (.mov 16 (.t 1))⟩, ⟨(some (15, false)), (.bin 17 .gtr (.t 16) (.v (.k (.c (.int .i64 512)))))⟩, ⟨none, (.pick 18 (.t 15) (.v (.k (.c (.bool true)))) (.t 17))⟩]
def f28b11 : AQ := (.seq (.region f28r10) f28b9)
def f28b12 : AQ := (.seq f28b11 f28b6)
def f28r13 : List AI := [⟨none, (.build 11 [(.list 0 (some true) []), (.list 0 (some true) []), (.int .i64 0), (.bool false)] [])⟩, ⟨none, (.mov 12 (.t 6))⟩, ⟨none, (.store 4 (.t 4) (.t 11))⟩, ⟨none, (.mov 5 (.t 12))⟩]
def f28b14 : AQ := (.seq (.region f28r13) .ret)
def f28b15 : AQ := (.cond (.t 10) f28b14 .skip)
def f28r16 : List AI := [⟨none, (.mov 9 (.t 6))⟩, ⟨none, (.bin 10 .neq (.t 9) (.v (.k (.c (.int .i64 0)))))⟩]
def f28b17 : AQ := (.seq (.region f28r16) f28b15)
def f28r18 : List AI := [⟨none, (.load 7 4 true (.t 2))⟩, ⟨none, (.call (some 8) 54 [(.t 7)])⟩, ⟨none, (.mov 6 (.t 8))⟩]
def f28b19 : AQ := (.seq (.region f28r18) f28b17)
def f28b20 : AQ := (.seq f28b19 f28b12)
def f28r21 : List AI := [⟨none, (.box 2 25 (.t 0))⟩, ⟨none, (.alloc 4 25 [(.list 0 (some true) []), (.list 0 (some true) []), (.int .i64 0), (.bool false)])⟩, ⟨none, (.mov 5 (.v (.k (.c (.int .i64 0)))))⟩]
def f28b22 : AQ := (.seq (.region f28r21) f28b20)
def f28 : AQ := f28b22
theorem hf28 : cFunc Tryz.prog 28 = some ⟨25, f28.erase, [(RX.cell 4 4 true), (RX.t 5)]⟩ := by kernel_rfl
theorem okf28 : f28.ok = true := by kernel_rfl
def f29r1 : List AI := [⟨none, (.mov 20 (.t 0))⟩, ⟨none, (.len 21 (.t 20))⟩, ⟨none, (.bin 22 .leq (.t 21) (.v (.k (.c (.int .i64 3)))))⟩, ⟨none, (.mov 2 (.t 22))⟩]
def f29b2 : AQ := (.seq (.region f29r1) .ret)
def f29r3 : List AI := [⟨none, (.mov 12 (.t 3))⟩, ⟨none, (.bin 13 .add (.t 12) (.v (.k (.c (.int .i64 1)))))⟩, ⟨none, (.mov 3 (.t 13))⟩]
def f29r4 : List AI := [⟨none, (.mov 2 (.v (.k (.c (.bool false)))))⟩]
def f29b5 : AQ := (.seq (.region f29r4) .ret)
def f29b6 : AQ := (.cond (.t 19) f29b5 .skip)
def f29r7 : List AI := [⟨none, (.mov 14 (.t 0))⟩, ⟨none, (.mov 15 (.t 3))⟩, ⟨none, (.iaddr 16 1 (.t 14) (.t 15))⟩, ⟨none, (.load 17 1 false (.t 16))⟩, ⟨none, (.len 18 (.t 17))⟩, ⟨none, (.bin 19 .gtr (.t 18) (.v (.k (.c (.int .i64 500)))))⟩]
def f29b8 : AQ := (.seq (.region f29r7) f29b6)
def f29b9 : AQ := (.block 1 f29b8)
def f29b10 : AQ := (.seq f29b9 (.region f29r3))
def f29b11 : AQ := (.cond (.t 11) .skip (.exit 0))
def f29r12 : List AI := [⟨none, (.mov 4 (.t 3))⟩, ⟨none, (.mov 5 (.t 0))⟩, ⟨none, (.len 6 (.t 5))⟩, ⟨none, (.bin 7 .lss (.t 4) (.t 6))⟩, ⟨none, (.mov 8 (.t 7))⟩, ⟨(some (8, true)), (.mov 9 (.t 3))⟩, ⟨(some (8, true)), (.bin 10 .lss (.t 9) (.v (.k (.c (.int .i64 5)))))⟩, ⟨none, (.pick 11 (.t 8) (.t 10) (.v (.k (.c (.bool false)))))⟩]
def f29b13 : AQ := (.seq (.region f29r12) f29b11)
def f29b14 : AQ := (.seq f29b13 f29b10)
def f29l15 : AQ := .loop [0, 3] [] f29b14
theorem uf29l15 (P ts os Q) : awl P f29l15 Q ts os = awl P (.loop [0, 3] [] f29b14) Q ts os := id rfl
def f29b16 : AQ := (.block 0 f29l15)
def f29r17 : List AI := [⟨none, (.mov 3 (.v (.k (.c (.int .i64 0)))))⟩]
def f29b18 : AQ := (.seq (.region f29r17) f29b16)
def f29b19 : AQ := (.seq f29b18 f29b2)
def f29r20 : List AI := [⟨none, (.mov 2 (.v (.k (.c (.bool false)))))⟩]
def f29b21 : AQ := (.seq (.region f29r20) f29b19)
def f29 : AQ := f29b21
theorem hf29 : cFunc Tryz.prog 29 = some ⟨23, f29.erase, [(RX.t 2)]⟩ := by kernel_rfl
theorem okf29 : f29.ok = true := by kernel_rfl
def f31r1 : List AI := [⟨none, (.call (some 11) 57 [(.v (.k (.c (.str [0])))), (.v (.k (.c (.int .i64 16))))])⟩, ⟨none, (.bslice 12 9 1 [(.str [])] 1 [(0, (.t 11))])⟩, ⟨none, (.mov 13 (.t 0))⟩, ⟨none, (.call (some 14) 56 [(.t 12), (.t 13)])⟩, (AI.mk none (.build 15 [(.list 0 (some true) []), (.list 0 (some true) []), (.int .i64 0), (.bool false)] [(0, (1, (.t 14))), (2, (1, (.v (.k (.c (.int .i64 (-1)))))))])), ⟨none, (.store 4 (.t 2) (.t 15))⟩, ⟨none, (.mov 3 (.v (.k (.c (.int .i64 0)))))⟩]
def f31b2 : AQ := (.seq (.region f31r1) .ret)
def f31r3 : List AI := [⟨none, (.build 10 [(.list 0 (some true) []), (.list 0 (some true) []), (.int .i64 0), (.bool false)] [])⟩, ⟨none, (.store 4 (.t 2) (.t 10))⟩, ⟨none, (.mov 3 (.v (.k (.c (.int .i64 1)))))⟩]
def f31b4 : AQ := (.seq (.region f31r3) .ret)
def f31b5 : AQ := (.cond (.t 9) f31b4 .skip)
def f31r6 : List AI := [⟨none, (.mov 4 (.t 0))⟩, ⟨none, (.bin 5 .lss (.t 4) (.v (.k (.c (.int .i64 1)))))⟩, ⟨none, (.mov 6 (.t 5))⟩, ⟨(some (6, false)), (.mov 7 (.t 0))⟩, ⟨(some (6, false)), (.bin 8 .gtr (.t 7) (.v (.k (.c (.int .i64 512)))))⟩, ⟨none, (.pick 9 (.t 6) (.v (.k (.c (.bool true)))) (.t 8))⟩]
def f31b7 : AQ := (.seq (.region f31r6) f31b5)
def f31b8 : AQ := (.seq f31b7 f31b2)
def f31r9 : List AI := [⟨none, (.alloc 2 25 [(.list 0 (some true) []), (.list 0 (some true) []), (.int .i64 0), (.bool false)])⟩, ⟨none, (.mov 3 (.v (.k (.c (.int .i64 0)))))⟩]
def f31b10 : AQ := (.seq (.region f31r9) f31b8)
def f31 : AQ := f31b10
theorem hf31 : cFunc Tryz.prog 31 = some ⟨16, f31.erase, [(RX.cell 2 4 true), (RX.t 3)]⟩ := by kernel_rfl
theorem okf31 : f31.ok = true := by kernel_rfl
def f32r1 : List AI := [⟨none, (.load 28 4 true (.t 1))⟩, ⟨none, (.call (some 29) 61 [(.t 28)])⟩, ⟨none, (.extr 30 (.t 29) 0)⟩, ⟨none, (.extr 31 (.t 29) 1)⟩, ⟨none, (.store 4 (.t 2) (.t 30))⟩, ⟨none, (.mov 3 (.t 31))⟩]
def f32b2 : AQ := (.seq (.region f32r1) .ret)
def f32r3 : List AI := [⟨none, (.bin 27 .add (.t 17) (.v (.k (.c (.int .i64 1)))))⟩, ⟨none, (.mov 17 (.t 27))⟩]
def f32r4o0 : AI := ⟨none, (.load 21 4 true (.t 1))⟩
def f32r4o1 : AI := ⟨none, (.mov 22 (.t 5))⟩
def f32r4o2 : AI := ⟨none, (.call (some 23) 60 [(.v (.k (.c (.int .i64 0))))])⟩
def f32r4o3 : AI := ⟨none, (.call (some 24) 59 [(.t 21), (.t 22), (.t 23)])⟩
def f32r4o4 : AI := ⟨none, (.mov 20 (.t 24))⟩
def f32r4o5 : AI := ⟨none, (.extr 25 (.t 20) 0)⟩
def f32r4o6 : AI := ⟨none, (.extr 26 (.t 20) 1)⟩
def f32r4o7 : AI := ⟨none, (.store 4 (.t 1) (.t 25))⟩
def f32r4 : List AI := [f32r4o0, f32r4o1, f32r4o2, f32r4o3, f32r4o4, f32r4o5, f32r4o6, f32r4o7]
theorem utf32r4 : treeOf f32r4 [[], [], [], [0, 1, 2, 2], [3], [4], [4], [5, 3, 0, 1, 2, 3, 4, 5]] = (.one f32r4o0 (.one f32r4o1 (.one f32r4o2 (.one f32r4o3 (.one f32r4o4 (.one f32r4o5 (.alt (.one f32r4o6 (.one f32r4o7 .done)) (.alt (.one f32r4o7 (.one f32r4o6 .done)) .top)))))))) := by kernel_rfl
def f32r5 : List AI := [⟨none, (.mov 19 (.t 17))⟩, ⟨none, (.mov 5 (.t 19))⟩]
def f32b6 : AQ := (.seq (.region f32r5) (.tree f32r4 [[], [], [], [0, 1, 2, 2], [3], [4], [4], [5, 3, 0, 1, 2, 3, 4, 5]]))
def f32b7 : AQ := (.block 1 f32b6)
def f32b8 : AQ := (.seq f32b7 (.region f32r3))
def f32b9 : AQ := (.cond (.t 18) .skip (.exit 0))
def f32b10 : AQ := (.seq f32b9 f32b8)
def f32r11 : List AI := [⟨none, (.bin 18 .lss (.t 17) (.v (.k (.c (.int .i64 2)))))⟩]
def f32b12 : AQ := (.seq (.region f32r11) f32b10)
def f32l13 : AQ := .loop [1, 2, 17] [1, 2, 24, 29, 25000, 25001, 25002, 30000, 30001, 30002] f32b12
theorem uf32l13 (P ts os Q) : awl P f32l13 Q ts os = awl P (.loop [1, 2, 17] [1, 2, 24, 29, 25000, 25001, 25002, 30000, 30001, 30002] f32b12) Q ts os := id rfl
def f32b14 : AQ := (.block 0 f32l13)
def f32r15 : List AI := [⟨none, (.mov 17 (.v (.k (.c (.int .i64 0)))))⟩]
def f32b16 : AQ := (.seq (.region f32r15) f32b14)
def f32b17 : AQ := (.seq f32b16 f32b2)
def f32r18 : List AI := [⟨none, (.build 16 [(.list 0 (some true) []), (.list 0 (some true) []), (.int .i64 0), (.bool false)] [])⟩, ⟨none, (.store 4 (.t 2) (.t 16))⟩, ⟨none, (.mov 3 (.v (.k (.c (.int .i64 6)))))⟩]
def f32b19 : AQ := (.seq (.region f32r18) .ret)
def f32b20 : AQ := (.cond (.t 15) f32b19 .skip)
def f32r21 : List AI := [⟨none, (.faddr 12 0 (.t 1))⟩, ⟨none, (.load 13 1 false (.t 12))⟩, ⟨none, (.len 14 (.t 13))⟩, ⟨none, (.bin 15 .leq (.t 14) (.v (.k (.c (.int .i64 2)))))⟩]
def f32b22 : AQ := (.seq (.region f32r21) f32b20)
def f32b23 : AQ := (.seq f32b22 f32b17)
def f32r24 : List AI := [⟨none, (.build 10 [(.list 0 (some true) []), (.list 0 (some true) []), (.int .i64 0), (.bool false)] [])⟩, ⟨none, (.mov 11 (.t 4))⟩, ⟨none, (.store 4 (.t 2) (.t 10))⟩, ⟨none, (.mov 3 (.t 11))⟩]
def f32b25 : AQ := (.seq (.region f32r24) .ret)
def f32b26 : AQ := (.cond (.t 9) f32b25 .skip)
def f32r27 : List AI := [⟨none, (.mov 8 (.t 4))⟩, ⟨none, (.bin 9 .neq (.t 8) (.v (.k (.c (.int .i64 0)))))⟩]
def f32b28 : AQ := (.seq (.region f32r27) f32b26)
def f32r29 : List AI := [⟨none, (.load 6 4 true (.t 1))⟩, ⟨none, (.call (some 7) 58 [(.t 6)])⟩, ⟨none, (.mov 4 (.t 7))⟩]
def f32b30 : AQ := (.seq (.region f32r29) f32b28)
def f32b31 : AQ := (.seq f32b30 f32b23)
def f32r32 : List AI := [⟨none, (.box 1 25 (.t 0))⟩, ⟨none, (.alloc 2 25 [(.list 0 (some true) []), (.list 0 (some true) []), (.int .i64 0), (.bool false)])⟩, ⟨none, (.mov 3 (.v (.k (.c (.int .i64 0)))))⟩]
def f32b33 : AQ := (.seq (.region f32r32) f32b31)
def f32 : AQ := f32b33
theorem hf32 : cFunc Tryz.prog 32 = some ⟨32, f32.erase, [(RX.cell 2 4 true), (RX.t 3)]⟩ := by kernel_rfl
theorem okf32 : f32.ok = true := by kernel_rfl
def f35r1 : List AI := [⟨none, (.faddr 11 0 (.t 4))⟩, ⟨none, (.load 12 1 false (.t 11))⟩, ⟨none, (.mov 13 (.t 5))⟩, ⟨none, (.mov 2 (.t 12))⟩, ⟨none, (.mov 3 (.t 13))⟩]
def f35b2 : AQ := (.seq (.region f35r1) .ret)
def f35r3 : List AI := [⟨none, (.load 7 4 true (.t 1))⟩, ⟨none, (.call (some 8) 66 [(.t 7)])⟩, ⟨none, (.mov 6 (.t 8))⟩, ⟨none, (.extr 9 (.t 6) 0)⟩, ⟨none, (.extr 10 (.t 6) 1)⟩, ⟨none, (.alloc 4 72 [(.list 0 (some true) []), (.str []), (.int .i64 0)])⟩, ⟨none, (.store 3 (.t 4) (.t 9))⟩, ⟨none, (.mov 5 (.t 10))⟩]
def f35b4 : AQ := (.seq (.region f35r3) f35b2)
def f35r5 : List AI := [⟨none, (.box 1 25 (.t 0))⟩, ⟨none, (.nilL 2 9 1)⟩, ⟨none, (.mov 3 (.v (.k (.c (.int .i64 0)))))⟩]
def f35b6 : AQ := (.seq (.region f35r5) f35b4)
def f35 : AQ := f35b6
theorem hf35 : cFunc Tryz.prog 35 = some ⟨14, f35.erase, [(RX.t 2), (RX.t 3)]⟩ := by kernel_rfl
theorem okf35 : f35.ok = true := by kernel_rfl
def f36r1 : List AI := [⟨none, (.mov 5 (.t 0))⟩, ⟨none, (.mov 6 (.t 1))⟩, ⟨none, (.call (some 7) 67 [(.t 5), (.t 6)])⟩, ⟨none, (.bin 8 .geq (.t 7) (.v (.k (.c (.int .i64 0)))))⟩, ⟨none, (.mov 4 (.t 8))⟩]
def f36b2 : AQ := (.seq (.region f36r1) .ret)
def f36r3 : List AI := [⟨none, (.mov 4 (.v (.k (.c (.bool false)))))⟩]
def f36b4 : AQ := (.seq (.region f36r3) f36b2)
def f36 : AQ := f36b4
theorem hf36 : cFunc Tryz.prog 36 = some ⟨9, f36.erase, [(RX.t 4)]⟩ := by kernel_rfl
theorem okf36 : f36.ok = true := by kernel_rfl
def f39r1 : List AI := [⟨none, (.load 94 4 true (.t 2))⟩, ⟨none, (.call (some 95) 61 [(.t 94)])⟩, ⟨none, (.extr 96 (.t 95) 0)⟩, ⟨none, (.extr 97 (.t 95) 1)⟩, ⟨none, (.store 4 (.t 4) (.t 96))⟩, ⟨none, (.mov 5 (.t 97))⟩]
def f39b2 : AQ := (.seq (.region f39r1) .ret)
def f39r3o0 : AI := ⟨none, (.load 84 4 true (.t 2))⟩
def f39r3o1 : AI := ⟨none, (.faddr 85 2 (.t 6))⟩
def f39r3o2 : AI := ⟨none, (.load 86 1 false (.t 85))⟩
def f39r3o3 : AI := ⟨none, (.bin 87 .sub (.v (.k (.c (.int .i64 1)))) (.t 86))⟩
def f39r3o4 : AI := ⟨none, (.mov 88 (.t 8))⟩
def f39r3o5 : AI := ⟨none, (.lenS 89 (.t 88))⟩
def f39r3o6 : AI := ⟨none, (.call (some 90) 60 [(.t 89)])⟩
def f39r3o7 : AI := ⟨none, (.call (some 91) 59 [(.t 84), (.t 87), (.t 90)])⟩
def f39r3o8 : AI := ⟨none, (.mov 83 (.t 91))⟩
def f39r3o9 : AI := ⟨none, (.extr 92 (.t 83) 0)⟩
def f39r3o10 : AI := ⟨none, (.extr 93 (.t 83) 1)⟩
def f39r3o11 : AI := ⟨none, (.store 4 (.t 2) (.t 92))⟩
def f39r3 : List AI := [f39r3o0, f39r3o1, f39r3o2, f39r3o3, f39r3o4, f39r3o5, f39r3o6, f39r3o7, f39r3o8, f39r3o9, f39r3o10, f39r3o11]
theorem utf39r3 : treeOf f39r3 [[], [], [1], [2], [], [4], [5], [0, 3, 6, 6], [7], [8], [8], [9, 7, 0, 1, 2, 3, 4, 5, 6, 7, 8, 9]] = (.one f39r3o0 (.one f39r3o1 (.one f39r3o2 (.one f39r3o3 (.one f39r3o4 (.one f39r3o5 (.one f39r3o6 (.one f39r3o7 (.one f39r3o8 (.one f39r3o9 (.alt (.one f39r3o10 (.one f39r3o11 .done)) (.alt (.one f39r3o11 (.one f39r3o10 .done)) .top)))))))))))) := by kernel_rfl
def f39b4 : AQ := (.seq (.tree f39r3 [[], [], [1], [2], [], [4], [5], [0, 3, 6, 6], [7], [8], [8], [9, 7, 0, 1, 2, 3, 4, 5, 6, 7, 8, 9]]) (.keep [2, 4] [2, 4, 71, 76, 91, 95, 72000, 72001, 72002, 77000, 77001, 77002, 92000, 92001, 92002, 96000, 96001, 96002] f39b2))
def f39r5 : List AI := [⟨none, (.load 81 4 true (.t 2))⟩, ⟨none, (.mov 82 (.t 7))⟩, ⟨none, (.store 4 (.t 4) (.t 81))⟩, ⟨none, (.mov 5 (.t 82))⟩]
def f39b6 : AQ := (.seq (.region f39r5) .ret)
def f39b7 : AQ := (.cond (.t 80) f39b6 .skip)
def f39r8 : List AI := [⟨none, (.mov 79 (.t 7))⟩, ⟨none, (.bin 80 .neq (.t 79) (.v (.k (.c (.int .i64 0)))))⟩]
def f39b9 : AQ := (.seq (.region f39r8) f39b7)
def f39b10 : AQ := (.seq f39b9 f39b4)
def f39r11 : List AI := [⟨none, (.load 75 4 true (.t 2))⟩, ⟨none, (.call (some 76) 61 [(.t 75)])⟩, ⟨none, (.mov 74 (.t 76))⟩, ⟨none, (.extr 77 (.t 74) 0)⟩, ⟨none, (.extr 78 (.t 74) 1)⟩, ⟨none, (.store 4 (.t 2) (.t 77))⟩, ⟨none, (.mov 7 (.t 78))⟩]
def f39b12 : AQ := (.seq (.region f39r11) f39b10)
def f39r13 : List AI := [⟨none, (.mov 55 (.t 9))⟩, ⟨none, (.bin 56 .add (.t 55) (.v (.k (.c (.int .i64 1)))))⟩, ⟨none, (.mov 9 (.t 56))⟩]
def f39r14o0 : AI := ⟨none, (.load 58 4 true (.t 2))⟩
def f39r14o1 : AI := ⟨none, (.mov 59 (.t 9))⟩
def f39r14o2 : AI := ⟨none, (.bin 60 .add (.v (.k (.c (.int .i64 2)))) (.t 59))⟩
def f39r14o3 : AI := ⟨none, (.mov 61 (.t 8))⟩
def f39r14o4 : AI := ⟨none, (.mov 62 (.t 9))⟩
def f39r14o5 : AI := ⟨none, (.bin 63 .mul (.t 62) (.v (.k (.c (.int .i64 16)))))⟩
def f39r14o6 : AI := ⟨none, (.mov 64 (.t 9))⟩
def f39r14o7 : AI := ⟨none, (.bin 65 .add (.t 64) (.v (.k (.c (.int .i64 1)))))⟩
def f39r14o8 : AI := ⟨none, (.bin 66 .mul (.t 65) (.v (.k (.c (.int .i64 16)))))⟩
def f39r14o9 : AI := ⟨none, (.mov 67 (.t 8))⟩
def f39r14o10 : AI := ⟨none, (.lenS 68 (.t 67))⟩
def f39r14o11 : AI := ⟨none, (.minmax 69 false (.t 66) [(.t 68)])⟩
def f39r14o12 : AI := ⟨none, (.slstr 70 (.t 61) (some (.t 63)) (some (.t 69)))⟩
def f39r14o13 : AI := ⟨none, (.call (some 71) 59 [(.t 58), (.t 60), (.t 70)])⟩
def f39r14o14 : AI := ⟨none, (.mov 57 (.t 71))⟩
def f39r14o15 : AI := ⟨none, (.extr 72 (.t 57) 0)⟩
def f39r14o16 : AI := ⟨none, (.extr 73 (.t 57) 1)⟩
def f39r14o17 : AI := ⟨none, (.store 4 (.t 2) (.t 72))⟩
def f39r14 : List AI := [f39r14o0, f39r14o1, f39r14o2, f39r14o3, f39r14o4, f39r14o5, f39r14o6, f39r14o7, f39r14o8, f39r14o9, f39r14o10, f39r14o11, f39r14o12, f39r14o13, f39r14o14, f39r14o15, f39r14o16, f39r14o17]
theorem utf39r14 : treeOf f39r14 [[], [], [1], [], [], [4], [], [6], [7], [], [9], [8, 10], [3, 5, 11], [0, 2, 12], [13], [14], [14], [15, 13, 0, 1, 2, 3, 4, 5, 6, 7, 8, 9, 10, 11, 12, 13, 14, 15]] = (.one f39r14o0 (.one f39r14o1 (.one f39r14o2 (.one f39r14o3 (.one f39r14o4 (.one f39r14o5 (.one f39r14o6 (.one f39r14o7 (.one f39r14o8 (.one f39r14o9 (.one f39r14o10 (.one f39r14o11 (.one f39r14o12 (.one f39r14o13 (.one f39r14o14 (.one f39r14o15 (.alt (.one f39r14o16 (.one f39r14o17 .done)) (.alt (.one f39r14o17 (.one f39r14o16 .done)) .top)))))))))))))))))) := by kernel_rfl
def f39b15 : AQ := (.block 2 (.tree f39r14 [[], [], [1], [], [], [4], [], [6], [7], [], [9], [8, 10], [3, 5, 11], [0, 2, 12], [13], [14], [14], [15, 13, 0, 1, 2, 3, 4, 5, 6, 7, 8, 9, 10, 11, 12, 13, 14, 15]]))
def f39b16 : AQ := (.seq f39b15 (.region f39r13))
def f39b17 : AQ := (.cond (.t 54) .skip (.exit 1))
def f39r18 : List AI := [⟨none, (.mov 50 (.t 9))⟩, ⟨none, (.bin 51 .mul (.t 50) (.v (.k (.c (.int .i64 16)))))⟩, ⟨none, (.mov 52 (.t 8))⟩, ⟨none, (.lenS 53 (.t 52))⟩, ⟨none, (.bin 54 .lss (.t 51) (.t 53))⟩]
def f39b19 : AQ := (.seq (.region f39r18) f39b17)
def f39b20 : AQ := (.seq f39b19 f39b16)
def f39l21 : AQ := .loop [2, 4, 6, 8, 9] [2, 4, 6, 12, 71, 76, 91, 95, 13000, 13001, 13002, 72000, 72001, 72002, 77000, 77001, 77002, 92000, 92001, 92002, 96000, 96001, 96002] f39b20
theorem uf39l21 (P ts os Q) : awl P f39l21 Q ts os = awl P (.loop [2, 4, 6, 8, 9] [2, 4, 6, 12, 71, 76, 91, 95, 13000, 13001, 13002, 72000, 72001, 72002, 77000, 77001, 77002, 92000, 92001, 92002, 96000, 96001, 96002] f39b20) Q ts os := id rfl
def f39b22 : AQ := (.block 1 f39l21)
def f39r23 : List AI := [⟨none, (.faddr 46 1 (.t 6))⟩, ⟨none, (.load 47 1 false (.t 46))⟩, ⟨none, (.lenS 48 (.t 47))⟩, ⟨none, (.bin 49 .quo (.t 48) (.v (.k (.c (.int .i64 16)))))⟩, ⟨none, (.mov 9 (.t 49))⟩]
def f39b24 : AQ := (.seq (.region f39r23) f39b22)
def f39b25 : AQ := (.seq f39b24 f39b12)
def f39r26 : List AI := [⟨none, (.build 23 [(.list 0 (some true) []), (.list 0 (some true) []), (.int .i64 0), (.bool false)] [])⟩, ⟨none, (.mov 24 (.t 7))⟩, ⟨none, (.store 4 (.t 4) (.t 23))⟩, ⟨none, (.mov 5 (.t 24))⟩]
def f39b27 : AQ := (.seq (.region f39r26) .ret)
def f39r28 : List AI := [⟨none, (.build 29 [(.list 0 (some true) []), (.list 0 (some true) []), (.int .i64 0), (.bool false)] [])⟩, ⟨none, (.store 4 (.t 4) (.t 29))⟩, ⟨none, (.mov 5 (.v (.k (.c (.int .i64 1)))))⟩]
def f39b29 : AQ := (.seq (.region f39r28) .ret)
def f39r30 : List AI := [⟨none, (.build 45 [(.list 0 (some true) []), (.list 0 (some true) []), (.int .i64 0), (.bool false)] [])⟩, ⟨none, (.store 4 (.t 4) (.t 45))⟩, ⟨none, (.mov 5 (.v (.k (.c (.int .i64 6)))))⟩]
def f39b31 : AQ := (.seq (.region f39r30) .ret)
def f39b32 : AQ := (.cond (.t 30) f39b31 .skip)
def f39r33 : List AI := [⟨none, (.faddr 31 0 (.t 6))⟩, ⟨none, (.load 32 1 false (.t 31))⟩, ⟨none, (.len 33 (.t 32))⟩, ⟨none, (.bin 34 .eql (.t 33) (.v (.k (.c (.int .i64 500)))))⟩, ⟨none, (.mov 35 (.t 34))⟩, ⟨(some (35, false)), (.mov 36 (.t 8))⟩, ⟨(some (35, false)), (.lenS 37 (.t 36))⟩, ⟨(some (35, false)), (.faddr 38 0 (.t 2))⟩, ⟨(some (35, false)), (.load 39 1 false (.t 38))⟩, ⟨(some (35, false)), (.len 40 (.t 39))⟩, ⟨(some (35, false)), (.bin 41 .sub (.t 40) (.v (.k (.c (.int .i64 2)))))⟩, ⟨(some (35, false)), (.bin 42 .mul (.t 41) (.v (.k (.c (.int .i64 16)))))⟩, ⟨(some (35, false)), (.bin 43 .gtr (.t 37) (.t 42))⟩, ⟨none, (.pick 44 (.t 35) (.v (.k (.c (.bool true)))) (.t 43))⟩, ⟨none, (.mov 30 (.t 44))⟩]
def f39b34 : AQ := (.seq (.region f39r33) f39b32)
def f39b35 : AQ := (.cond (.t 25) f39b29 f39b34)
def f39r36 : List AI := [⟨none, (.mov 26 (.t 1))⟩, ⟨none, (.lenS 27 (.t 26))⟩, ⟨none, (.bin 28 .gtr (.t 27) (.v (.k (.c (.int .i64 2000)))))⟩, ⟨none, (.mov 25 (.t 28))⟩]
def f39b37 : AQ := (.seq (.region f39r36) f39b35)
def f39b38 : AQ := (.cond (.t 20) f39b27 f39b37)
def f39r39 : List AI := [⟨none, (.mov 21 (.t 7))⟩, ⟨none, (.bin 22 .neq (.t 21) (.v (.k (.c (.int .i64 0)))))⟩, ⟨none, (.mov 20 (.t 22))⟩]
def f39b40 : AQ := (.seq (.region f39r39) f39b38)
def f39b41 : AQ := (.block 0 f39b40)
def f39b42 : AQ := (.seq f39b41 f39b25)
def f39r43 : List AI := [⟨none, (.faddr 15 1 (.t 6))⟩, ⟨none, (.load 16 1 false (.t 15))⟩, ⟨none, (.mov 17 (.t 1))⟩, ⟨none, (.call (some 18) 68 [(.t 17)])⟩, ⟨none, (.bin 19 .add (.t 16) (.t 18))⟩, ⟨none, (.mov 8 (.t 19))⟩]
def f39b44 : AQ := (.seq (.draw f39r43 [[], [0], [], [2], [1, 3], [4, 3, 0, 1, 2, 3, 4]]) f39b42)
def f39r45 : List AI := [⟨none, (.load 11 4 true (.t 2))⟩, ⟨none, (.call (some 12) 66 [(.t 11)])⟩, ⟨none, (.mov 10 (.t 12))⟩, ⟨none, (.extr 13 (.t 10) 0)⟩, ⟨none, (.extr 14 (.t 10) 1)⟩, ⟨none, (.alloc 6 72 [(.list 0 (some true) []), (.str []), (.int .i64 0)])⟩, ⟨none, (.store 3 (.t 6) (.t 13))⟩, ⟨none, (.mov 7 (.t 14))⟩]
def f39b46 : AQ := (.seq (.region f39r45) f39b44)
def f39r47 : List AI := [⟨none, (.box 2 25 (.t 0))⟩, ⟨none, (.alloc 4 25 [(.list 0 (some true) []), (.list 0 (some true) []), (.int .i64 0), (.bool false)])⟩, ⟨none, (.mov 5 (.v (.k (.c (.int .i64 0)))))⟩]
def f39b48 : AQ := (.seq (.region f39r47) f39b46)
def f39 : AQ := f39b48
theorem hf39 : cFunc Tryz.prog 39 = some ⟨98, f39.erase, [(RX.cell 4 4 true), (RX.t 5)]⟩ := by kernel_rfl
theorem okf39 : f39.ok = true := by kernel_rfl
def f41r1 : List AI := [⟨none, (.load 15 4 true (.t 1))⟩, ⟨none, (.store 4 (.t 2) (.t 15))⟩, ⟨none, (.mov 3 (.v (.k (.c (.int .i64 0)))))⟩]
def f41b2 : AQ := (.seq (.region f41r1) .ret)
def f41r3 : List AI := [⟨none, (.faddr 14 3 (.t 1))⟩, ⟨none, (.store 1 (.t 14) (.v (.k (.c (.bool false)))))⟩]
def f41b4 : AQ := (.seq (.region f41r3) f41b2)
def f41r5 : List AI := [⟨none, (.load 12 4 true (.t 1))⟩, ⟨none, (.call (some 13) 55 [(.t 12)])⟩, ⟨none, (.store 4 (.t 1) (.t 13))⟩]
def f41b6 : AQ := (.seq (.region f41r5) f41b4)
def f41r7 : List AI := [⟨none, (.build 11 [(.list 0 (some true) []), (.list 0 (some true) []), (.int .i64 0), (.bool false)] [])⟩, ⟨none, (.store 4 (.t 2) (.t 11))⟩, ⟨none, (.mov 3 (.v (.k (.c (.int .i64 7)))))⟩]
def f41b8 : AQ := (.seq (.region f41r7) .ret)
def f41b9 : AQ := (.cond (.t 10) f41b8 .skip)
def f41r10 : List AI := [⟨none, (.faddr 8 3 (.t 1))⟩, ⟨none, (.load 9 1 false (.t 8))⟩, ⟨none, (.un 10 .not (.t 9))⟩]
def f41b11 : AQ := (.seq (.region f41r10) f41b9)
def f41b12 : AQ := (.seq f41b11 f41b6)
def f41r13 : List AI := [⟨none, (.build 7 [(.list 0 (some true) []), (.list 0 (some true) []), (.int .i64 0), (.bool false)] [])⟩, ⟨none, (.store 4 (.t 2) (.t 7))⟩, ⟨none, (.mov 3 (.v (.k (.c (.int .i64 1)))))⟩]
def f41b14 : AQ := (.seq (.region f41r13) .ret)
def f41b15 : AQ := (.cond (.t 6) f41b14 .skip)
def f41r16 : List AI := [⟨none, (.load 4 4 true (.t 1))⟩, ⟨none, (.call (some 5) 71 [(.t 4)])⟩, ⟨none, (.un 6 .not (.t 5))⟩]
def f41b17 : AQ := (.seq (.region f41r16) f41b15)
def f41b18 : AQ := (.seq f41b17 f41b12)
def f41r19 : List AI := [⟨none, (.box 1 25 (.t 0))⟩, ⟨none, (.alloc 2 25 [(.list 0 (some true) []), (.list 0 (some true) []), (.int .i64 0), (.bool false)])⟩, ⟨none, (.mov 3 (.v (.k (.c (.int .i64 0)))))⟩]
def f41b20 : AQ := (.seq (.region f41r19) f41b18)
def f41 : AQ := f41b20
theorem hf41 : cFunc Tryz.prog 41 = some ⟨16, f41.erase, [(RX.cell 2 4 true), (RX.t 3)]⟩ := by kernel_rfl
theorem okf41 : f41.ok = true := by kernel_rfl
def f42r1 : List AI := [⟨none, (.mov 2 (.v (.k (.c (.int .i64 0)))))⟩]
def f42b2 : AQ := (.seq (.region f42r1) .ret)
def f42r3 : List AI := [⟨none, (.mov 2 (.v (.k (.c (.int .i64 1)))))⟩]
def f42b4 : AQ := (.seq (.region f42r3) .ret)
def f42b5 : AQ := (.cond (.t 87) f42b4 .skip)
def f42r6 : List AI := [⟨none, (.faddr 75 3 (.t 1))⟩, ⟨none, (.load 76 1 false (.t 75))⟩, ⟨none, (.mov 77 (.t 76))⟩, ⟨(some (77, true)), (.faddr 78 1 (.t 1))⟩, ⟨(some (77, true)), (.load 79 1 false (.t 78))⟩, ⟨(some (77, true)), (.len 80 (.t 79))⟩, ⟨(some (77, true)), (.bin 81 .gtr (.t 80) (.v (.k (.c (.int .i64 0)))))⟩, ⟨(some (77, true)), (.mov 82 (.t 81))⟩, ⟨(some (82, false)), (.faddr 83 2 (.t 1))⟩, ⟨(some (82, false)), (.load 84 1 false (.t 83))⟩, ⟨(some (82, false)), (.bin 85 .neq (.t 84) (.v (.k (.c (.int .i64 (-1))))))⟩, ⟨(some (77, true)), (.pick 86 (.t 82) (.v (.k (.c (.bool true)))) (.t 85))⟩, ⟨none, (.pick 87 (.t 77) (.t 86) (.v (.k (.c (.bool false)))))⟩]
def f42b7 : AQ := (.seq (.region f42r6) f42b5)
def f42b8 : AQ := (.seq f42b7 f42b2)
def f42r9 : List AI := [⟨none, (.mov 51 (.t 4))⟩, ⟨none, (.bin 52 .add (.t 51) (.v (.k (.c (.int .i64 1)))))⟩, ⟨none, (.mov 4 (.t 52))⟩]
def f42r10 : List AI := [⟨none, (.mov 2 (.v (.k (.c (.int .i64 1)))))⟩]
def f42b11 : AQ := (.seq (.region f42r10) .ret)
def f42b12 : AQ := (.cond (.t 74) f42b11 .skip)
def f42r13 : List AI := [⟨none, (.faddr 58 0 (.t 5))⟩, ⟨none, (.load 59 1 false (.t 58))⟩, ⟨none, (.bin 60 .lss (.t 59) (.v (.k (.c (.int .i64 0)))))⟩, ⟨none, (.mov 61 (.t 60))⟩, ⟨(some (61, false)), (.faddr 62 0 (.t 5))⟩, ⟨(some (61, false)), (.load 63 1 false (.t 62))⟩, ⟨(some (61, false)), (.faddr 64 0 (.t 1))⟩, ⟨(some (61, false)), (.load 65 1 false (.t 64))⟩, ⟨(some (61, false)), (.len 66 (.t 65))⟩, ⟨(some (61, false)), (.bin 67 .geq (.t 63) (.t 66))⟩, ⟨none, (.pick 68 (.t 61) (.v (.k (.c (.bool true)))) (.t 67))⟩, ⟨none, (.mov 69 (.t 68))⟩, ⟨(some (69, false)), (.faddr 70 1 (.t 5))⟩, ⟨(some (69, false)), (.load 71 1 false (.t 70))⟩, ⟨(some (69, false)), (.lenS 72 (.t 71))⟩, ⟨(some (69, false)), (.bin 73 .neq (.t 72) (.v (.k (.c (.int .i64 16)))))⟩, ⟨none, (.pick 74 (.t 69) (.v (.k (.c (.bool true)))) (.t 73))⟩]
def f42b14 : AQ := (.seq (.region f42r13) f42b12)
def f42r15 : List AI := [⟨none, (.faddr 53 1 (.t 1))⟩, ⟨none, (.load 54 1 false (.t 53))⟩, ⟨none, (.mov 55 (.t 4))⟩, ⟨none, (.iaddr 56 2 (.t 54) (.t 55))⟩, ⟨none, (.load 57 2 true (.t 56))⟩, ⟨none, (.alloc 5 52 [(.int .i64 0), (.str [])])⟩, ⟨none, (.store 2 (.t 5) (.t 57))⟩]
def f42b16 : AQ := (.seq (.region f42r15) f42b14)
def f42b17 : AQ := (.block 3 f42b16)
def f42b18 : AQ := (.seq f42b17 (.region f42r9))
def f42b19 : AQ := (.cond (.t 50) .skip (.exit 2))
def f42r20 : List AI := [⟨none, (.mov 46 (.t 4))⟩, ⟨none, (.faddr 47 1 (.t 1))⟩, ⟨none, (.load 48 1 false (.t 47))⟩, ⟨none, (.len 49 (.t 48))⟩, ⟨none, (.bin 50 .lss (.t 46) (.t 49))⟩]
def f42b21 : AQ := (.seq (.region f42r20) f42b19)
def f42b22 : AQ := (.seq f42b21 f42b18)
def f42l23 : AQ := .loop [1, 4] [1] f42b22
theorem uf42l23 (P ts os Q) : awl P f42l23 Q ts os = awl P (.loop [1, 4] [1] f42b22) Q ts os := id rfl
def f42b24 : AQ := (.block 2 f42l23)
def f42r25 : List AI := [⟨none, (.mov 4 (.v (.k (.c (.int .i64 0)))))⟩]
def f42b26 : AQ := (.seq (.region f42r25) f42b24)
def f42b27 : AQ := (.seq f42b26 f42b8)
def f42r28 : List AI := [⟨none, (.mov 37 (.t 3))⟩, ⟨none, (.bin 38 .add (.t 37) (.v (.k (.c (.int .i64 1)))))⟩, ⟨none, (.mov 3 (.t 38))⟩]
def f42r29 : List AI := [⟨none, (.mov 2 (.v (.k (.c (.int .i64 1)))))⟩]
def f42b30 : AQ := (.seq (.region f42r29) .ret)
def f42b31 : AQ := (.cond (.t 45) f42b30 .skip)
def f42r32 : List AI := [⟨none, (.faddr 39 0 (.t 1))⟩, ⟨none, (.load 40 1 false (.t 39))⟩, ⟨none, (.mov 41 (.t 3))⟩, ⟨none, (.iaddr 42 1 (.t 40) (.t 41))⟩, ⟨none, (.load 43 1 false (.t 42))⟩, ⟨none, (.lenS 44 (.t 43))⟩, ⟨none, (.bin 45 .neq (.t 44) (.v (.k (.c (.int .i64 16)))))⟩]
def f42b33 : AQ := (.seq (.region f42r32) f42b31)
def f42b34 : AQ := (.block 1 f42b33)
def f42b35 : AQ := (.seq f42b34 (.region f42r28))
def f42b36 : AQ := (.cond (.t 36) .skip (.exit 0))
def f42r37 : List AI := [⟨none, (.mov 32 (.t 3))⟩, ⟨none, (.faddr 33 0 (.t 1))⟩, ⟨none, (.load 34 1 false (.t 33))⟩, ⟨none, (.len 35 (.t 34))⟩, ⟨none, (.bin 36 .lss (.t 32) (.t 35))⟩]
def f42b38 : AQ := (.seq (.region f42r37) f42b36)
def f42b39 : AQ := (.seq f42b38 f42b35)
def f42l40 : AQ := .loop [1, 3] [1] f42b39
theorem uf42l40 (P ts os Q) : awl P f42l40 Q ts os = awl P (.loop [1, 3] [1] f42b39) Q ts os := id rfl
def f42b41 : AQ := (.block 0 f42l40)
def f42r42 : List AI := [⟨none, (.mov 3 (.v (.k (.c (.int .i64 0)))))⟩]
def f42b43 : AQ := (.seq (.region f42r42) f42b41)
def f42b44 : AQ := (.seq f42b43 f42b27)
def f42r45 : List AI := [⟨none, (.mov 2 (.v (.k (.c (.int .i64 1)))))⟩]
def f42b46 : AQ := (.seq (.region f42r45) .ret)
def f42b47 : AQ := (.cond (.t 31) f42b46 .skip)
def f42r48 : List AI := [⟨none, (.faddr 6 0 (.t 1))⟩, ⟨none, (.load 7 1 false (.t 6))⟩, ⟨none, (.len 8 (.t 7))⟩, ⟨none, (.bin 9 .lss (.t 8) (.v (.k (.c (.int .i64 1)))))⟩, ⟨none, (.mov 10 (.t 9))⟩, ⟨(some (10, false)), (.faddr 11 0 (.t 1))⟩, ⟨(some (10, false)), (.load 12 1 false (.t 11))⟩, ⟨(some (10, false)), (.len 13 (.t 12))⟩, ⟨(some (10, false)), (.bin 14 .gtr (.t 13) (.v (.k (.c (.int .i64 512)))))⟩, ⟨none, (.pick 15 (.t 10) (.v (.k (.c (.bool true)))) (.t 14))⟩, ⟨none, (.mov 16 (.t 15))⟩, ⟨(some (16, false)), (.faddr 17 1 (.t 1))⟩, ⟨(some (16, false)), (.load 18 1 false (.t 17))⟩, ⟨(some (16, false)), (.len 19 (.t 18))⟩, ⟨(some (16, false)), (.bin 20 .gtr (.t 19) (.v (.k (.c (.int .i64 512)))))⟩, ⟨none, (.pick 21 (.t 16) (.v (.k (.c (.bool true)))) (.t 20))⟩, ⟨none, (.mov 22 (.t 21))⟩, ⟨(some (22, false)), (.faddr 23 2 (.t 1))⟩, ⟨(some (22, false)), (.load 24 1 false (.t 23))⟩, ⟨(some (22, false)), (.bin 25 .lss (.t 24) (.v (.k (.c (.int .i64 (-1))))))⟩, ⟨none, (.pick 26 (.t 22) (.v (.k (.c (.bool true)))) (.t 25))⟩, ⟨none, (.mov 27 (.t 26))⟩, ⟨(some (27, false)), (.faddr 28 2 (.t 1))⟩, ⟨(some (27, false)), (.load 29 1 false (.t 28))⟩, ⟨(some (27, false)), (.bin 30 .gtr (.t 29) (.v (.k (.c (.int .i64 512)))))⟩, ⟨none, (.pick 31 (.t 27) (.v (.k (.c (.bool true)))) (.t 30))⟩]
def f42b49 : AQ := (.seq (.region f42r48) f42b47)
def f42b50 : AQ := (.seq f42b49 f42b44)
def f42r51 : List AI := [⟨none, (.box 1 25 (.t 0))⟩, ⟨none, (.mov 2 (.v (.k (.c (.int .i64 0)))))⟩]
def f42b52 : AQ := (.seq (.region f42r51) f42b50)
def f42 : AQ := f42b52
theorem hf42 : cFunc Tryz.prog 42 = some ⟨88, f42.erase, [(RX.t 2)]⟩ := by kernel_rfl
theorem okf42 : f42.ok = true := by kernel_rfl
def f43r1 : List AI := [⟨none, (.mov 2 (.v (.k (.c (.int .i64 0)))))⟩]
def f43b2 : AQ := (.seq (.region f43r1) .ret)
def f43r3 : List AI := [⟨none, (.mov 2 (.v (.k (.c (.int .i64 7)))))⟩]
def f43b4 : AQ := (.seq (.region f43r3) .ret)
def f43b5 : AQ := (.cond (.t 14) f43b4 .skip)
def f43r6 : List AI := [⟨none, (.faddr 11 1 (.t 1))⟩, ⟨none, (.load 12 1 false (.t 11))⟩, ⟨none, (.len 13 (.t 12))⟩, ⟨none, (.bin 14 .gtr (.t 13) (.v (.k (.c (.int .i64 0)))))⟩]
def f43b7 : AQ := (.seq (.region f43r6) f43b5)
def f43b8 : AQ := (.seq f43b7 f43b2)
def f43r9 : List AI := [⟨none, (.mov 2 (.v (.k (.c (.int .i64 8)))))⟩]
def f43b10 : AQ := (.seq (.region f43r9) .ret)
def f43b11 : AQ := (.cond (.t 10) f43b10 .skip)
def f43r12 : List AI := [⟨none, (.faddr 9 3 (.t 1))⟩, ⟨none, (.load 10 1 false (.t 9))⟩]
def f43b13 : AQ := (.seq (.region f43r12) f43b11)
def f43b14 : AQ := (.seq f43b13 f43b8)
def f43r15 : List AI := [⟨none, (.mov 8 (.t 3))⟩, ⟨none, (.mov 2 (.t 8))⟩]
def f43b16 : AQ := (.seq (.region f43r15) .ret)
def f43b17 : AQ := (.cond (.t 7) f43b16 .skip)
def f43r18 : List AI := [⟨none, (.mov 6 (.t 3))⟩, ⟨none, (.bin 7 .neq (.t 6) (.v (.k (.c (.int .i64 0)))))⟩]
def f43b19 : AQ := (.seq (.region f43r18) f43b17)
def f43b20 : AQ := (.seq f43b19 f43b14)
def f43r21 : List AI := [⟨none, (.load 4 4 true (.t 1))⟩, ⟨none, (.call (some 5) 42 [(.t 4)])⟩, ⟨none, (.mov 3 (.t 5))⟩]
def f43b22 : AQ := (.seq (.region f43r21) f43b20)
def f43r23 : List AI := [⟨none, (.box 1 25 (.t 0))⟩, ⟨none, (.mov 2 (.v (.k (.c (.int .i64 0)))))⟩]
def f43b24 : AQ := (.seq (.region f43r23) f43b22)
def f43 : AQ := f43b24
theorem hf43 : cFunc Tryz.prog 43 = some ⟨15, f43.erase, [(RX.t 2)]⟩ := by kernel_rfl
theorem okf43 : f43.ok = true := by kernel_rfl
def f48r1 : List AI := [⟨none, (.mov 3 (.t 0))⟩, ⟨none, (.len 4 (.t 3))⟩, ⟨none, (.bin 5 .leq (.t 4) (.v (.k (.c (.int .i64 3)))))⟩, ⟨none, (.mov 6 (.t 5))⟩, ⟨(some (6, true)), (.mov 7 (.t 0))⟩, ⟨(some (6, true)), (.call (some 8) 73 [(.t 7), (.v (.k (.c (.fn 74 []))))])⟩, ⟨(some (6, true)), (.un 9 .not (.t 8))⟩, ⟨none, (.pick 10 (.t 6) (.t 9) (.v (.k (.c (.bool false)))))⟩, ⟨none, (.mov 2 (.t 10))⟩]
def f48b2 : AQ := (.seq (.region f48r1) .ret)
def f48r3 : List AI := [⟨none, (.mov 2 (.v (.k (.c (.bool false)))))⟩]
def f48b4 : AQ := (.seq (.region f48r3) f48b2)
def f48 : AQ := f48b4
theorem hf48 : cFunc Tryz.prog 48 = some ⟨11, f48.erase, [(RX.t 2)]⟩ := by kernel_rfl
theorem okf48 : f48.ok = true := by kernel_rfl
def f51r1 : List AI := [⟨none, (.mov 47 (.t 5))⟩, ⟨none, (.mov 4 (.t 47))⟩]
def f51b2 : AQ := (.seq (.region f51r1) .ret)
def f51r3 : List AI := [⟨none, (.mov 43 (.t 5))⟩, ⟨none, (.mov 44 (.t 1))⟩, ⟨none, (.bslice 45 9 1 [(.str [])] 1 [(0, (.t 44))])⟩, ⟨none, (.append 46 9 1 16 (.t 43) (.t 45))⟩, ⟨none, (.mov 5 (.t 46))⟩]
def f51b4 : AQ := (.cond (.t 42) (.region f51r3) .skip)
def f51r5 : List AI := [⟨none, (.mov 41 (.t 6))⟩, ⟨none, (.un 42 .not (.t 41))⟩]
def f51b6 : AQ := (.seq (.region f51r5) f51b4)
def f51b7 : AQ := (.seq f51b6 f51b2)
def f51r8 : List AI := [⟨none, (.mov 12 (.t 7))⟩, ⟨none, (.bin 13 .add (.t 12) (.v (.k (.c (.int .i64 1)))))⟩, ⟨none, (.mov 7 (.t 13))⟩]
def f51r9 : List AI := [⟨none, (.mov 34 (.t 5))⟩, ⟨none, (.mov 35 (.t 0))⟩, ⟨none, (.mov 36 (.t 7))⟩, ⟨none, (.iaddr 37 1 (.t 35) (.t 36))⟩, ⟨none, (.load 38 1 false (.t 37))⟩, ⟨none, (.bslice 39 9 1 [(.str [])] 1 [(0, (.t 38))])⟩, ⟨none, (.append 40 9 1 16 (.t 34) (.t 39))⟩, ⟨none, (.mov 5 (.t 40))⟩]
def f51r10 : List AI := [⟨none, (.mov 6 (.v (.k (.c (.bool true)))))⟩]
def f51r11 : List AI := [⟨none, (.mov 30 (.t 5))⟩, ⟨none, (.mov 31 (.t 1))⟩, ⟨none, (.bslice 32 9 1 [(.str [])] 1 [(0, (.t 31))])⟩, ⟨none, (.append 33 9 1 16 (.t 30) (.t 32))⟩, ⟨none, (.mov 5 (.t 33))⟩]
def f51b12 : AQ := (.cond (.t 29) (.region f51r11) .skip)
def f51r13 : List AI := [⟨none, (.mov 24 (.t 1))⟩, ⟨none, (.mov 25 (.t 0))⟩, ⟨none, (.mov 26 (.t 7))⟩, ⟨none, (.iaddr 27 1 (.t 25) (.t 26))⟩, ⟨none, (.load 28 1 false (.t 27))⟩, ⟨none, (.bin 29 .lss (.t 24) (.t 28))⟩]
def f51b14 : AQ := (.seq (.region f51r13) f51b12)
def f51b15 : AQ := (.seq f51b14 (.region f51r10))
def f51b16 : AQ := (.cond (.t 23) f51b15 .skip)
def f51r17 : List AI := [⟨none, (.mov 14 (.t 6))⟩, ⟨none, (.un 15 .not (.t 14))⟩, ⟨none, (.mov 16 (.t 15))⟩, ⟨(some (16, true)), (.mov 17 (.t 1))⟩, ⟨(some (16, true)), (.mov 18 (.t 0))⟩, ⟨(some (16, true)), (.mov 19 (.t 7))⟩, ⟨(some (16, true)), (.iaddr 20 1 (.t 18) (.t 19))⟩, ⟨(some (16, true)), (.load 21 1 false (.t 20))⟩, ⟨(some (16, true)), (.bin 22 .leq (.t 17) (.t 21))⟩, ⟨none, (.pick 23 (.t 16) (.t 22) (.v (.k (.c (.bool false)))))⟩]
def f51b18 : AQ := (.seq (.region f51r17) f51b16)
def f51b19 : AQ := (.seq f51b18 (.region f51r9))
def f51b20 : AQ := (.block 1 f51b19)
def f51b21 : AQ := (.seq f51b20 (.region f51r8))
def f51b22 : AQ := (.cond (.t 11) .skip (.exit 0))
def f51r23 : List AI := [⟨none, (.mov 8 (.t 7))⟩, ⟨none, (.mov 9 (.t 0))⟩, ⟨none, (.len 10 (.t 9))⟩, ⟨none, (.bin 11 .lss (.t 8) (.t 10))⟩]
def f51b24 : AQ := (.seq (.region f51r23) f51b22)
def f51b25 : AQ := (.seq f51b24 f51b21)
def f51l26 : AQ := .loop [0, 1, 5, 6, 7] [5, 33, 40, 46] f51b25
theorem uf51l26 (P ts os Q) : awl P f51l26 Q ts os = awl P (.loop [0, 1, 5, 6, 7] [5, 33, 40, 46] f51b25) Q ts os := id rfl
def f51b27 : AQ := (.block 0 f51l26)
def f51r28 : List AI := [⟨none, (.mov 7 (.v (.k (.c (.int .i64 0)))))⟩]
def f51b29 : AQ := (.seq (.region f51r28) f51b27)
def f51b30 : AQ := (.seq f51b29 f51b7)
def f51r31 : List AI := [⟨none, (.mov 6 (.v (.k (.c (.bool false)))))⟩]
def f51b32 : AQ := (.seq (.region f51r31) f51b30)
def f51r33 : List AI := [⟨none, (.nilL 5 9 1)⟩]
def f51b34 : AQ := (.seq (.region f51r33) f51b32)
def f51r35 : List AI := [⟨none, (.nilL 4 9 1)⟩]
def f51b36 : AQ := (.seq (.region f51r35) f51b34)
def f51 : AQ := f51b36
theorem hf51 : cFunc Tryz.prog 51 = some ⟨48, f51.erase, [(RX.t 4)]⟩ := by kernel_rfl
theorem okf51 : f51.ok = true := by kernel_rfl
def f54r1 : List AI := [⟨none, (.mov 2 (.v (.k (.c (.int .i64 0)))))⟩]
def f54b2 : AQ := (.seq (.region f54r1) .ret)
def f54r3 : List AI := [⟨none, (.mov 2 (.v (.k (.c (.int .i64 1)))))⟩]
def f54b4 : AQ := (.seq (.region f54r3) .ret)
def f54r5 : List AI := [⟨none, (.mov 2 (.v (.k (.c (.int .i64 8)))))⟩]
def f54b6 : AQ := (.seq (.region f54r5) .ret)
def f54b7 : AQ := (.cond (.t 7) f54b6 .skip)
def f54r8 : List AI := [⟨none, (.faddr 8 3 (.t 1))⟩, ⟨none, (.load 9 1 false (.t 8))⟩, ⟨none, (.mov 7 (.t 9))⟩]
def f54b9 : AQ := (.seq (.region f54r8) f54b7)
def f54b10 : AQ := (.cond (.t 3) f54b4 f54b9)
def f54r11 : List AI := [⟨none, (.load 4 4 true (.t 1))⟩, ⟨none, (.call (some 5) 71 [(.t 4)])⟩, ⟨none, (.un 6 .not (.t 5))⟩, ⟨none, (.mov 3 (.t 6))⟩]
def f54b12 : AQ := (.seq (.region f54r11) f54b10)
def f54b13 : AQ := (.block 0 f54b12)
def f54b14 : AQ := (.seq f54b13 f54b2)
def f54r15 : List AI := [⟨none, (.box 1 25 (.t 0))⟩, ⟨none, (.mov 2 (.v (.k (.c (.int .i64 0)))))⟩]
def f54b16 : AQ := (.seq (.region f54r15) f54b14)
def f54 : AQ := f54b16
theorem hf54 : cFunc Tryz.prog 54 = some ⟨10, f54.erase, [(RX.t 2)]⟩ := by kernel_rfl
theorem okf54 : f54.ok = true := by kernel_rfl
def f58r1 : List AI := [⟨none, (.mov 2 (.v (.k (.c (.int .i64 0)))))⟩]
def f58b2 : AQ := (.seq (.region f58r1) .ret)
def f58r3 : List AI := [⟨none, (.mov 2 (.v (.k (.c (.int .i64 1)))))⟩]
def f58b4 : AQ := (.seq (.region f58r3) .ret)
def f58r5 : List AI := [⟨none, (.mov 2 (.v (.k (.c (.int .i64 8)))))⟩]
def f58b6 : AQ := (.seq (.region f58r5) .ret)
def f58r7 : List AI := [⟨none, (.mov 2 (.v (.k (.c (.int .i64 7)))))⟩]
def f58b8 : AQ := (.seq (.region f58r7) .ret)
def f58b9 : AQ := (.cond (.t 10) f58b8 .skip)
def f58r10 : List AI := [⟨none, (.faddr 11 1 (.t 1))⟩, ⟨none, (.load 12 1 false (.t 11))⟩, ⟨none, (.len 13 (.t 12))⟩, ⟨none, (.bin 14 .gtr (.t 13) (.v (.k (.c (.int .i64 0)))))⟩, ⟨none, (.mov 10 (.t 14))⟩]
def f58b11 : AQ := (.seq (.region f58r10) f58b9)
def f58b12 : AQ := (.cond (.t 7) f58b6 f58b11)
def f58r13 : List AI := [⟨none, (.faddr 8 3 (.t 1))⟩, ⟨none, (.load 9 1 false (.t 8))⟩, ⟨none, (.mov 7 (.t 9))⟩]
def f58b14 : AQ := (.seq (.region f58r13) f58b12)
def f58b15 : AQ := (.cond (.t 3) f58b4 f58b14)
def f58r16 : List AI := [⟨none, (.load 4 4 true (.t 1))⟩, ⟨none, (.call (some 5) 84 [(.t 4)])⟩, ⟨none, (.bin 6 .neq (.t 5) (.v (.k (.c (.int .i64 0)))))⟩, ⟨none, (.mov 3 (.t 6))⟩]
def f58b17 : AQ := (.seq (.region f58r16) f58b15)
def f58b18 : AQ := (.block 0 f58b17)
def f58b19 : AQ := (.seq f58b18 f58b2)
def f58r20 : List AI := [⟨none, (.box 1 25 (.t 0))⟩, ⟨none, (.mov 2 (.v (.k (.c (.int .i64 0)))))⟩]
def f58b21 : AQ := (.seq (.region f58r20) f58b19)
def f58 : AQ := f58b21
theorem hf58 : cFunc Tryz.prog 58 = some ⟨15, f58.erase, [(RX.t 2)]⟩ := by kernel_rfl
theorem okf58 : f58.ok = true := by kernel_rfl
def f59r1 : List AI := [⟨none, (.load 50 4 true (.t 3))⟩, ⟨none, (.store 4 (.t 6) (.t 50))⟩, ⟨none, (.mov 7 (.v (.k (.c (.int .i64 0)))))⟩]
def f59b2 : AQ := (.seq (.region f59r1) .ret)
def f59r3 : List AI := [⟨none, (.faddr 37 1 (.t 3))⟩, ⟨none, (.load 38 1 false (.t 37))⟩, ⟨none, (.mov 39 (.t 1))⟩, ⟨none, (.mov 40 (.t 2))⟩, ⟨none, (.mov 41 (.t 2))⟩, ⟨none, (.lenS 42 (.t 41))⟩, ⟨none, (.bin 43 .sub (.v (.k (.c (.int .i64 16)))) (.t 42))⟩, ⟨none, (.call (some 44) 57 [(.v (.k (.c (.str [0])))), (.t 43)])⟩, ⟨none, (.bin 45 .add (.t 40) (.t 44))⟩, ⟨none, (.build 46 [(.int .i64 0), (.str [])] [(0, (1, (.t 39))), (1, (1, (.t 45)))])⟩, ⟨none, (.bslice 47 52 2 [(.int .i64 0), (.str [])] 1 [(0, (.t 46))])⟩, ⟨none, (.append 48 52 2 24 (.t 38) (.t 47))⟩, ⟨none, (.faddr 49 1 (.t 3))⟩, ⟨none, (.store 1 (.t 49) (.t 48))⟩]
def f59b4 : AQ := (.seq (.draw f59r3 [[], [0], [], [], [], [4], [5], [6], [3, 7], [2, 8], [9], [1, 10, 7], [0, 1, 2, 3, 4, 5, 6, 7, 8, 9, 10, 11], [12, 11, 11, 0, 1, 2, 3, 4, 5, 6, 7, 8, 9, 10, 11]]) f59b2)
def f59r5 : List AI := [⟨none, (.load 35 4 true (.t 3))⟩, ⟨none, (.call (some 36) 55 [(.t 35)])⟩, ⟨none, (.store 4 (.t 3) (.t 36))⟩]
def f59b6 : AQ := (.seq (.region f59r5) f59b4)
def f59r7 : List AI := [⟨none, (.build 34 [(.list 0 (some true) []), (.list 0 (some true) []), (.int .i64 0), (.bool false)] [])⟩, ⟨none, (.store 4 (.t 6) (.t 34))⟩, ⟨none, (.mov 7 (.v (.k (.c (.int .i64 6)))))⟩]
def f59b8 : AQ := (.seq (.region f59r7) .ret)
def f59b9 : AQ := (.cond (.t 33) f59b8 .skip)
def f59r10 : List AI := [⟨none, (.faddr 30 1 (.t 3))⟩, ⟨none, (.load 31 1 false (.t 30))⟩, ⟨none, (.len 32 (.t 31))⟩, ⟨none, (.bin 33 .eql (.t 32) (.v (.k (.c (.int .i64 512)))))⟩]
def f59b11 : AQ := (.seq (.region f59r10) f59b9)
def f59b12 : AQ := (.seq f59b11 f59b6)
def f59r13 : List AI := [⟨none, (.build 29 [(.list 0 (some true) []), (.list 0 (some true) []), (.int .i64 0), (.bool false)] [])⟩, ⟨none, (.store 4 (.t 6) (.t 29))⟩, ⟨none, (.mov 7 (.v (.k (.c (.int .i64 1)))))⟩]
def f59b14 : AQ := (.seq (.region f59r13) .ret)
def f59b15 : AQ := (.cond (.t 28) f59b14 .skip)
def f59r16 : List AI := [⟨none, (.mov 15 (.t 1))⟩, ⟨none, (.bin 16 .lss (.t 15) (.v (.k (.c (.int .i64 0)))))⟩, ⟨none, (.mov 17 (.t 16))⟩, ⟨(some (17, false)), (.mov 18 (.t 1))⟩, ⟨(some (17, false)), (.faddr 19 0 (.t 3))⟩, ⟨(some (17, false)), (.load 20 1 false (.t 19))⟩, ⟨(some (17, false)), (.len 21 (.t 20))⟩, ⟨(some (17, false)), (.bin 22 .geq (.t 18) (.t 21))⟩, ⟨none, (.pick 23 (.t 17) (.v (.k (.c (.bool true)))) (.t 22))⟩, ⟨none, (.mov 24 (.t 23))⟩, ⟨(some (24, false)), (.mov 25 (.t 2))⟩, ⟨(some (24, false)), (.lenS 26 (.t 25))⟩, ⟨(some (24, false)), (.bin 27 .gtr (.t 26) (.v (.k (.c (.int .i64 16)))))⟩, ⟨none, (.pick 28 (.t 24) (.v (.k (.c (.bool true)))) (.t 27))⟩]
def f59b17 : AQ := (.seq (.region f59r16) f59b15)
def f59b18 : AQ := (.seq f59b17 f59b12)
def f59r19 : List AI := [⟨none, (.build 13 [(.list 0 (some true) []), (.list 0 (some true) []), (.int .i64 0), (.bool false)] [])⟩, ⟨none, (.mov 14 (.t 8))⟩, ⟨none, (.store 4 (.t 6) (.t 13))⟩, ⟨none, (.mov 7 (.t 14))⟩]
def f59b20 : AQ := (.seq (.region f59r19) .ret)
def f59b21 : AQ := (.cond (.t 12) f59b20 .skip)
def f59r22 : List AI := [⟨none, (.mov 11 (.t 8))⟩, ⟨none, (.bin 12 .neq (.t 11) (.v (.k (.c (.int .i64 0)))))⟩]
def f59b23 : AQ := (.seq (.region f59r22) f59b21)
def f59r24 : List AI := [⟨none, (.load 9 4 true (.t 3))⟩, ⟨none, (.call (some 10) 54 [(.t 9)])⟩, ⟨none, (.mov 8 (.t 10))⟩]
def f59b25 : AQ := (.seq (.region f59r24) f59b23)
def f59b26 : AQ := (.seq f59b25 f59b18)
def f59r27 : List AI := [⟨none, (.box 3 25 (.t 0))⟩, ⟨none, (.alloc 6 25 [(.list 0 (some true) []), (.list 0 (some true) []), (.int .i64 0), (.bool false)])⟩, ⟨none, (.mov 7 (.v (.k (.c (.int .i64 0)))))⟩]
def f59b28 : AQ := (.seq (.region f59r27) f59b26)
def f59 : AQ := f59b28
theorem hf59 : cFunc Tryz.prog 59 = some ⟨51, f59.erase, [(RX.cell 6 4 true), (RX.t 7)]⟩ := by kernel_rfl
theorem okf59 : f59.ok = true := by kernel_rfl
def f61r1 : List AI := [⟨none, (.load 85 4 true (.t 1))⟩, ⟨none, (.store 4 (.t 2) (.t 85))⟩, ⟨none, (.mov 3 (.v (.k (.c (.int .i64 0)))))⟩]
def f61b2 : AQ := (.seq (.region f61r1) .ret)
def f61r3 : List AI := [⟨none, (.faddr 80 2 (.t 1))⟩, ⟨none, (.load 81 1 false (.t 80))⟩, ⟨none, (.mov 82 (.t 5))⟩, ⟨none, (.bin 83 .sub (.t 81) (.t 82))⟩, ⟨none, (.faddr 84 2 (.t 1))⟩, ⟨none, (.store 1 (.t 84) (.t 83))⟩]
def f61b4 : AQ := (.cond (.t 79) (.region f61r3) .skip)
def f61r5 : List AI := [⟨none, (.faddr 77 2 (.t 1))⟩, ⟨none, (.load 78 1 false (.t 77))⟩, ⟨none, (.bin 79 .geq (.t 78) (.v (.k (.c (.int .i64 0)))))⟩]
def f61b6 : AQ := (.seq (.region f61r5) f61b4)
def f61b7 : AQ := (.seq f61b6 f61b2)
def f61r8 : List AI := [⟨none, (.faddr 76 1 (.t 1))⟩, ⟨none, (.store 1 (.t 76) (.v (.k (.c (.list 0 (some true) [])))))⟩]
def f61b9 : AQ := (.seq (.region f61r8) f61b7)
def f61r10 : List AI := [⟨none, (.load 74 4 true (.t 1))⟩, ⟨none, (.call (some 75) 85 [(.t 74)])⟩, ⟨none, (.store 4 (.t 2) (.t 75))⟩, ⟨none, (.mov 3 (.v (.k (.c (.int .i64 8)))))⟩]
def f61b11 : AQ := (.seq (.region f61r10) .ret)
def f61r12 : List AI := [⟨none, (.faddr 58 0 (.t 1))⟩, ⟨none, (.load 59 1 false (.t 58))⟩, ⟨none, (.faddr 60 0 (.t 9))⟩, ⟨none, (.load 61 1 false (.t 60))⟩, ⟨none, (.faddr 62 1 (.t 9))⟩, ⟨none, (.load 63 1 false (.t 62))⟩, ⟨none, (.slstr 64 (.t 63) none (some (.v (.k (.c (.int .i64 8))))))⟩, ⟨none, (.faddr 65 0 (.t 1))⟩, ⟨none, (.load 66 1 false (.t 65))⟩, ⟨none, (.faddr 67 0 (.t 9))⟩, ⟨none, (.load 68 1 false (.t 67))⟩, ⟨none, (.iaddr 69 1 (.t 66) (.t 68))⟩, ⟨none, (.load 70 1 false (.t 69))⟩, ⟨none, (.slstr 71 (.t 70) (some (.v (.k (.c (.int .i64 8))))) none)⟩, ⟨none, (.bin 72 .add (.t 64) (.t 71))⟩, ⟨none, (.iaddr 73 1 (.t 59) (.t 61))⟩, ⟨none, (.store 1 (.t 73) (.t 72))⟩]
def f61b13 : AQ := (.seq (.draw f61r12 [[], [0], [], [2], [], [4], [5], [], [7], [], [9], [8, 10], [11], [12], [6, 13], [1, 3, 0, 1, 2, 3, 4, 5, 6, 7, 8, 9, 10, 11, 12, 13, 14], [15, 14, 0, 1, 2, 3, 4, 5, 6, 7, 8, 9, 10, 11, 12, 13, 14]]) f61b11)
def f61r14 : List AI := [⟨none, (.faddr 53 1 (.t 1))⟩, ⟨none, (.load 54 1 false (.t 53))⟩, ⟨none, (.mov 55 (.t 5))⟩, ⟨none, (.iaddr 56 2 (.t 54) (.t 55))⟩, ⟨none, (.load 57 2 true (.t 56))⟩, ⟨none, (.alloc 9 52 [(.int .i64 0), (.str [])])⟩, ⟨none, (.store 2 (.t 9) (.t 57))⟩]
def f61b15 : AQ := (.seq (.region f61r14) f61b13)
def f61b16 : AQ := (.cond (.t 52) f61b15 .skip)
def f61r17 : List AI := [⟨none, (.mov 51 (.t 6))⟩, ⟨none, (.un 52 .not (.t 51))⟩]
def f61b18 : AQ := (.seq (.region f61r17) f61b16)
def f61b19 : AQ := (.seq f61b18 f61b9)
def f61r20 : List AI := [⟨none, (.bin 50 .add (.t 39) (.v (.k (.c (.int .i64 1)))))⟩, ⟨none, (.mov 39 (.t 50))⟩]
def f61r21 : List AI := [⟨none, (.faddr 43 0 (.t 1))⟩, ⟨none, (.load 44 1 false (.t 43))⟩, ⟨none, (.faddr 45 0 (.t 8))⟩, ⟨none, (.load 46 1 false (.t 45))⟩, ⟨none, (.faddr 47 1 (.t 8))⟩, ⟨none, (.load 48 1 false (.t 47))⟩, ⟨none, (.iaddr 49 1 (.t 44) (.t 46))⟩, ⟨none, (.store 1 (.t 49) (.t 48))⟩]
def f61r22 : List AI := [⟨none, (.iaddr 41 2 (.t 37) (.t 39))⟩, ⟨none, (.load 42 2 true (.t 41))⟩, ⟨none, (.alloc 8 52 [(.int .i64 0), (.str [])])⟩, ⟨none, (.store 2 (.t 8) (.t 42))⟩]
def f61b23 : AQ := (.seq (.region f61r22) (.region f61r21))
def f61b24 : AQ := (.block 1 f61b23)
def f61b25 : AQ := (.seq f61b24 (.region f61r20))
def f61b26 : AQ := (.cond (.t 40) .skip (.exit 0))
def f61b27 : AQ := (.seq f61b26 f61b25)
def f61r28 : List AI := [⟨none, (.bin 40 .lss (.t 39) (.t 38))⟩]
def f61b29 : AQ := (.seq (.region f61r28) f61b27)
def f61l30 : AQ := .loop [1, 2, 5, 6, 37, 38, 39] [1, 2, 17, 75, 18000, 18001, 18002, 76000, 76001, 76002] f61b29
theorem uf61l30 (P ts os Q) : awl P f61l30 Q ts os = awl P (.loop [1, 2, 5, 6, 37, 38, 39] [1, 2, 17, 75, 18000, 18001, 18002, 76000, 76001, 76002] f61b29) Q ts os := id rfl
def f61b31 : AQ := (.block 0 f61l30)
def f61r32 : List AI := [⟨none, (.faddr 34 1 (.t 1))⟩, ⟨none, (.load 35 1 false (.t 34))⟩, ⟨none, (.mov 36 (.t 5))⟩, ⟨none, (.slice 37 2 (.t 35) none (some (.t 36)))⟩, ⟨none, (.len 38 (.t 37))⟩, ⟨none, (.mov 39 (.v (.k (.c (.int .i64 0)))))⟩]
def f61b33 : AQ := (.seq (.region f61r32) f61b31)
def f61b34 : AQ := (.seq f61b33 f61b19)
def f61r35 : List AI := [⟨none, (.faddr 32 2 (.t 1))⟩, ⟨none, (.load 33 1 false (.t 32))⟩, ⟨none, (.mov 5 (.t 33))⟩]
def f61b36 : AQ := (.cond (.t 31) (.region f61r35) .skip)
def f61r37 : List AI := [⟨none, (.mov 30 (.t 6))⟩, ⟨none, (.un 31 .not (.t 30))⟩]
def f61b38 : AQ := (.seq (.region f61r37) f61b36)
def f61b39 : AQ := (.seq f61b38 f61b34)
def f61r40 : List AI := [⟨none, (.faddr 21 2 (.t 1))⟩, ⟨none, (.load 22 1 false (.t 21))⟩, ⟨none, (.bin 23 .eql (.t 22) (.v (.k (.c (.int .i64 (-1))))))⟩, ⟨none, (.mov 24 (.t 23))⟩, ⟨(some (24, false)), (.faddr 25 2 (.t 1))⟩, ⟨(some (24, false)), (.load 26 1 false (.t 25))⟩, ⟨(some (24, false)), (.mov 27 (.t 5))⟩, ⟨(some (24, false)), (.bin 28 .geq (.t 26) (.t 27))⟩, ⟨none, (.pick 29 (.t 24) (.v (.k (.c (.bool true)))) (.t 28))⟩, ⟨none, (.mov 6 (.t 29))⟩]
def f61b41 : AQ := (.seq (.region f61r40) f61b39)
def f61r42 : List AI := [⟨none, (.faddr 18 1 (.t 1))⟩, ⟨none, (.load 19 1 false (.t 18))⟩, ⟨none, (.len 20 (.t 19))⟩, ⟨none, (.mov 5 (.t 20))⟩]
def f61b43 : AQ := (.seq (.region f61r42) f61b41)
def f61r44 : List AI := [⟨none, (.load 16 4 true (.t 1))⟩, ⟨none, (.call (some 17) 55 [(.t 16)])⟩, ⟨none, (.store 4 (.t 1) (.t 17))⟩]
def f61b45 : AQ := (.seq (.region f61r44) (.frz 18001 f61b43))
def f61r46 : List AI := [⟨none, (.build 14 [(.list 0 (some true) []), (.list 0 (some true) []), (.int .i64 0), (.bool false)] [])⟩, ⟨none, (.mov 15 (.t 4))⟩, ⟨none, (.store 4 (.t 2) (.t 14))⟩, ⟨none, (.mov 3 (.t 15))⟩]
def f61b47 : AQ := (.seq (.region f61r46) .ret)
def f61b48 : AQ := (.cond (.t 13) f61b47 .skip)
def f61r49 : List AI := [⟨none, (.mov 12 (.t 4))⟩, ⟨none, (.bin 13 .neq (.t 12) (.v (.k (.c (.int .i64 0)))))⟩]
def f61b50 : AQ := (.seq (.region f61r49) f61b48)
def f61r51 : List AI := [⟨none, (.load 10 4 true (.t 1))⟩, ⟨none, (.call (some 11) 54 [(.t 10)])⟩, ⟨none, (.mov 4 (.t 11))⟩]
def f61b52 : AQ := (.seq (.region f61r51) f61b50)
def f61b53 : AQ := (.seq f61b52 f61b45)
def f61r54 : List AI := [⟨none, (.box 1 25 (.t 0))⟩, ⟨none, (.alloc 2 25 [(.list 0 (some true) []), (.list 0 (some true) []), (.int .i64 0), (.bool false)])⟩, ⟨none, (.mov 3 (.v (.k (.c (.int .i64 0)))))⟩]
def f61b55 : AQ := (.seq (.region f61r54) f61b53)
def f61 : AQ := f61b55
theorem hf61 : cFunc Tryz.prog 61 = some ⟨86, f61.erase, [(RX.cell 2 4 true), (RX.t 3)]⟩ := by kernel_rfl
theorem okf61 : f61.ok = true := by kernel_rfl
def f65r1 : List AI := [⟨none, (.load 65 4 true (.t 8))⟩, ⟨none, (.store 4 (.t 2) (.t 65))⟩, ⟨none, (.mov 3 (.v (.k (.c (.int .i64 0)))))⟩]
def f65b2 : AQ := (.seq (.region f65r1) .ret)
def f65r3 : List AI := [⟨none, (.faddr 60 2 (.t 1))⟩, ⟨none, (.load 61 1 false (.t 60))⟩, ⟨none, (.mov 62 (.t 5))⟩, ⟨none, (.bin 63 .sub (.t 61) (.t 62))⟩, ⟨none, (.faddr 64 2 (.t 8))⟩, ⟨none, (.store 1 (.t 64) (.t 63))⟩]
def f65b4 : AQ := (.cond (.t 59) (.region f65r3) .skip)
def f65r5 : List AI := [⟨none, (.faddr 57 2 (.t 1))⟩, ⟨none, (.load 58 1 false (.t 57))⟩, ⟨none, (.bin 59 .geq (.t 58) (.v (.k (.c (.int .i64 0)))))⟩]
def f65b6 : AQ := (.seq (.region f65r5) f65b4)
def f65b7 : AQ := (.seq f65b6 f65b2)
def f65r8 : List AI := [⟨none, (.load 53 4 true (.t 1))⟩, ⟨none, (.mov 54 (.t 5))⟩, ⟨none, (.call (some 55) 87 [(.t 53), (.t 54)])⟩, (AI.mk none (.build 56 [(.list 0 (some true) []), (.list 0 (some true) []), (.int .i64 0), (.bool false)] [(0, (1, (.t 55))), (2, (1, (.v (.k (.c (.int .i64 (-1)))))))])), ⟨none, (.alloc 8 25 [(.list 0 (some true) []), (.list 0 (some true) []), (.int .i64 0), (.bool false)])⟩, ⟨none, (.store 4 (.t 8) (.t 56))⟩]
def f65b9 : AQ := (.seq (.region f65r8) f65b7)
def f65r10 : List AI := [⟨none, (.mov 51 (.t 6))⟩, (AI.mk none (.build 52 [(.list 0 (some true) []), (.list 0 (some true) []), (.int .i64 0), (.bool false)] [(0, (1, (.t 51))), (2, (1, (.v (.k (.c (.int .i64 (-1))))))), (3, (1, (.v (.k (.c (.bool true))))))])), ⟨none, (.store 4 (.t 2) (.t 52))⟩, ⟨none, (.mov 3 (.v (.k (.c (.int .i64 8)))))⟩]
def f65b11 : AQ := (.seq (.region f65r10) .ret)
def f65r12 : List AI := [⟨none, (.mov 37 (.t 6))⟩, ⟨none, (.faddr 38 0 (.t 7))⟩, ⟨none, (.load 39 1 false (.t 38))⟩, ⟨none, (.faddr 40 1 (.t 7))⟩, ⟨none, (.load 41 1 false (.t 40))⟩, ⟨none, (.slstr 42 (.t 41) none (some (.v (.k (.c (.int .i64 8))))))⟩, ⟨none, (.mov 43 (.t 6))⟩, ⟨none, (.faddr 44 0 (.t 7))⟩, ⟨none, (.load 45 1 false (.t 44))⟩, ⟨none, (.iaddr 46 1 (.t 43) (.t 45))⟩, ⟨none, (.load 47 1 false (.t 46))⟩, ⟨none, (.slstr 48 (.t 47) (some (.v (.k (.c (.int .i64 8))))) none)⟩, ⟨none, (.bin 49 .add (.t 42) (.t 48))⟩, ⟨none, (.iaddr 50 1 (.t 37) (.t 39))⟩, ⟨none, (.store 1 (.t 50) (.t 49))⟩]
def f65b13 : AQ := (.seq (.draw f65r12 [[], [], [1], [], [3], [4], [], [], [7], [6, 8], [9], [10], [5, 11], [0, 2, 0, 1, 2, 3, 4, 5, 6, 7, 8, 9, 10, 11, 12], [13, 12, 0, 1, 2, 3, 4, 5, 6, 7, 8, 9, 10, 11, 12]]) f65b11)
def f65r14 : List AI := [⟨none, (.faddr 31 1 (.t 1))⟩, ⟨none, (.load 32 1 false (.t 31))⟩, ⟨none, (.faddr 33 2 (.t 1))⟩, ⟨none, (.load 34 1 false (.t 33))⟩, ⟨none, (.iaddr 35 2 (.t 32) (.t 34))⟩, ⟨none, (.load 36 2 true (.t 35))⟩, ⟨none, (.alloc 7 52 [(.int .i64 0), (.str [])])⟩, ⟨none, (.store 2 (.t 7) (.t 36))⟩]
def f65b15 : AQ := (.seq (.region f65r14) f65b13)
def f65r16 : List AI := [⟨none, (.load 27 4 true (.t 1))⟩, ⟨none, (.faddr 28 2 (.t 1))⟩, ⟨none, (.load 29 1 false (.t 28))⟩, ⟨none, (.call (some 30) 87 [(.t 27), (.t 29)])⟩, ⟨none, (.mov 6 (.t 30))⟩]
def f65b17 : AQ := (.seq (.region f65r16) f65b15)
def f65b18 : AQ := (.cond (.t 26) f65b17 .skip)
def f65r19 : List AI := [⟨none, (.faddr 18 2 (.t 1))⟩, ⟨none, (.load 19 1 false (.t 18))⟩, ⟨none, (.bin 20 .geq (.t 19) (.v (.k (.c (.int .i64 0)))))⟩, ⟨none, (.mov 21 (.t 20))⟩, ⟨(some (21, true)), (.faddr 22 2 (.t 1))⟩, ⟨(some (21, true)), (.load 23 1 false (.t 22))⟩, ⟨(some (21, true)), (.mov 24 (.t 5))⟩, ⟨(some (21, true)), (.bin 25 .lss (.t 23) (.t 24))⟩, ⟨none, (.pick 26 (.t 21) (.t 25) (.v (.k (.c (.bool false)))))⟩]
def f65b20 : AQ := (.seq (.region f65r19) f65b18)
def f65b21 : AQ := (.seq f65b20 f65b9)
def f65r22 : List AI := [⟨none, (.faddr 15 1 (.t 1))⟩, ⟨none, (.load 16 1 false (.t 15))⟩, ⟨none, (.len 17 (.t 16))⟩, ⟨none, (.mov 5 (.t 17))⟩]
def f65b23 : AQ := (.seq (.region f65r22) f65b21)
def f65r24 : List AI := [⟨none, (.build 13 [(.list 0 (some true) []), (.list 0 (some true) []), (.int .i64 0), (.bool false)] [])⟩, ⟨none, (.mov 14 (.t 4))⟩, ⟨none, (.store 4 (.t 2) (.t 13))⟩, ⟨none, (.mov 3 (.t 14))⟩]
def f65b25 : AQ := (.seq (.region f65r24) .ret)
def f65b26 : AQ := (.cond (.t 12) f65b25 .skip)
def f65r27 : List AI := [⟨none, (.mov 11 (.t 4))⟩, ⟨none, (.bin 12 .neq (.t 11) (.v (.k (.c (.int .i64 0)))))⟩]
def f65b28 : AQ := (.seq (.region f65r27) f65b26)
def f65b29 : AQ := (.seq f65b28 f65b23)
def f65r30 : List AI := [⟨none, (.load 9 4 true (.t 1))⟩, ⟨none, (.call (some 10) 86 [(.t 9)])⟩, ⟨none, (.mov 4 (.t 10))⟩]
def f65b31 : AQ := (.seq (.region f65r30) f65b29)
def f65r32 : List AI := [⟨none, (.box 1 25 (.t 0))⟩, ⟨none, (.alloc 2 25 [(.list 0 (some true) []), (.list 0 (some true) []), (.int .i64 0), (.bool false)])⟩, ⟨none, (.mov 3 (.v (.k (.c (.int .i64 0)))))⟩]
def f65b33 : AQ := (.seq (.region f65r32) f65b31)
def f65 : AQ := f65b33
theorem hf65 : cFunc Tryz.prog 65 = some ⟨66, f65.erase, [(RX.cell 2 4 true), (RX.t 3)]⟩ := by kernel_rfl
theorem okf65 : f65.ok = true := by kernel_rfl
def f66r1 : List AI := [⟨none, (.load 106 3 true (.t 5))⟩, ⟨none, (.store 3 (.t 2) (.t 106))⟩, ⟨none, (.mov 3 (.v (.k (.c (.int .i64 0)))))⟩]
def f66b2 : AQ := (.seq (.region f66r1) .ret)
def f66r3 : List AI := [⟨none, (.faddr 99 0 (.t 5))⟩, ⟨none, (.load 100 1 false (.t 99))⟩, ⟨none, (.mov 101 (.t 12))⟩, ⟨none, (.bslice 102 9 1 [(.str [])] 1 [(0, (.t 101))])⟩, ⟨none, (.append 103 9 1 16 (.t 100) (.t 102))⟩, ⟨none, (.mov 104 (.t 13))⟩, ⟨none, (.faddr 105 0 (.t 5))⟩, ⟨none, (.store 1 (.t 105) (.t 103))⟩, ⟨none, (.mov 11 (.t 104))⟩]
def f66r4 : List AI := [⟨none, (.build 98 [(.list 0 (some true) []), (.str []), (.int .i64 0)] [])⟩, ⟨none, (.store 3 (.t 2) (.t 98))⟩, ⟨none, (.mov 3 (.v (.k (.c (.int .i64 22)))))⟩]
def f66b5 : AQ := (.seq (.region f66r4) .ret)
def f66b6 : AQ := (.cond (.t 97) f66b5 .skip)
def f66r7 : List AI := [⟨none, (.mov 85 (.t 14))⟩, ⟨none, (.un 86 .not (.t 85))⟩, ⟨none, (.mov 87 (.t 86))⟩, ⟨(some (87, false)), (.mov 88 (.t 12))⟩, ⟨(some (87, false)), (.lenS 89 (.t 88))⟩, ⟨(some (87, false)), (.bin 90 .gtr (.t 89) (.v (.k (.c (.int .i64 2000)))))⟩, ⟨none, (.pick 91 (.t 87) (.v (.k (.c (.bool true)))) (.t 90))⟩, ⟨none, (.mov 92 (.t 91))⟩, ⟨(some (92, false)), (.faddr 93 0 (.t 5))⟩, ⟨(some (92, false)), (.load 94 1 false (.t 93))⟩, ⟨(some (92, false)), (.len 95 (.t 94))⟩, ⟨(some (92, false)), (.bin 96 .eql (.t 95) (.v (.k (.c (.int .i64 500)))))⟩, ⟨none, (.pick 97 (.t 92) (.v (.k (.c (.bool true)))) (.t 96))⟩]
def f66b8 : AQ := (.seq (.region f66r7) f66b6)
def f66b9 : AQ := (.seq f66b8 (.region f66r3))
def f66r10 : List AI := [⟨none, (.mov 80 (.t 11))⟩, ⟨none, (.call (some 81) 90 [(.t 80)])⟩, ⟨none, (.mov 79 (.t 81))⟩, ⟨none, (.extr 82 (.t 79) 0)⟩, ⟨none, (.extr 83 (.t 79) 1)⟩, ⟨none, (.extr 84 (.t 79) 2)⟩, ⟨none, (.mov 12 (.t 82))⟩, ⟨none, (.mov 13 (.t 83))⟩, ⟨none, (.mov 14 (.t 84))⟩]
def f66b11 : AQ := (.seq (.region f66r10) f66b9)
def f66b12 : AQ := (.block 1 f66b11)
def f66b13 : AQ := (.cond (.t 78) .skip (.exit 0))
def f66r14 : List AI := [⟨none, (.mov 77 (.t 11))⟩, ⟨none, (.bin 78 .neq (.t 77) (.v (.k (.c (.str [])))))⟩]
def f66b15 : AQ := (.seq (.region f66r14) f66b13)
def f66b16 : AQ := (.seq f66b15 f66b12)
def f66l17 : AQ := .loop [2, 5, 11] [2, 5, 103] f66b16
theorem uf66l17 (P ts os Q) : awl P f66l17 Q ts os = awl P (.loop [2, 5, 11] [2, 5, 103] f66b16) Q ts os := id rfl
def f66b18 : AQ := (.block 0 f66l17)
def f66r19 : List AI := [⟨none, (.faddr 75 1 (.t 5))⟩, ⟨none, (.load 76 1 false (.t 75))⟩, ⟨none, (.mov 11 (.t 76))⟩]
def f66b20 : AQ := (.seq (.region f66r19) f66b18)
def f66b21 : AQ := (.seq f66b20 f66b2)
def f66r22 : List AI := [⟨none, (.mov 71 (.t 10))⟩, ⟨none, (.mov 72 (.t 6))⟩, ⟨none, (.slstr 73 (.t 71) none (some (.t 72)))⟩, ⟨none, (.faddr 74 1 (.t 5))⟩, ⟨none, (.store 1 (.t 74) (.t 73))⟩]
def f66b23 : AQ := (.seq (.region f66r22) f66b21)
def f66r24 : List AI := [⟨none, (.build 70 [(.list 0 (some true) []), (.str []), (.int .i64 0)] [])⟩, ⟨none, (.store 3 (.t 2) (.t 70))⟩, ⟨none, (.mov 3 (.v (.k (.c (.int .i64 22)))))⟩]
def f66b25 : AQ := (.seq (.region f66r24) .ret)
def f66b26 : AQ := (.cond (.t 69) f66b25 .skip)
def f66r27 : List AI := [⟨none, (.mov 58 (.t 7))⟩, ⟨none, (.un 59 .not (.t 58))⟩, ⟨none, (.mov 60 (.t 59))⟩, ⟨(some (60, true)), (.mov 61 (.t 9))⟩, ⟨(some (60, true)), (.un 62 .not (.t 61))⟩, ⟨none, (.pick 63 (.t 60) (.t 62) (.v (.k (.c (.bool false)))))⟩, ⟨none, (.mov 64 (.t 63))⟩, ⟨(some (64, false)), (.mov 65 (.t 6))⟩, ⟨(some (64, false)), (.mov 66 (.t 10))⟩, ⟨(some (64, false)), (.lenS 67 (.t 66))⟩, ⟨(some (64, false)), (.bin 68 .gtr (.t 65) (.t 67))⟩, ⟨none, (.pick 69 (.t 64) (.v (.k (.c (.bool true)))) (.t 68))⟩]
def f66b28 : AQ := (.seq (.region f66r27) f66b26)
def f66b29 : AQ := (.seq f66b28 f66b23)
def f66r30 : List AI := [⟨none, (.faddr 54 0 (.t 1))⟩, ⟨none, (.load 55 1 false (.t 54))⟩, ⟨none, (.slice 56 1 (.t 55) (some (.v (.k (.c (.int .i64 2))))) none)⟩, ⟨none, (.call (some 57) 89 [(.t 56), (.v (.k (.c (.str []))))])⟩, ⟨none, (.mov 10 (.t 57))⟩]
def f66b31 : AQ := (.seq (.region f66r30) f66b29)
def f66r32 : List AI := [⟨none, (.mov 52 (.t 8))⟩, ⟨none, (.mov 6 (.t 52))⟩, ⟨none, (.faddr 53 2 (.t 5))⟩, ⟨none, (.store 1 (.t 53) (.v (.k (.c (.int .i64 1)))))⟩]
def f66b33 : AQ := (.cond (.t 51) (.region f66r32) .skip)
def f66r34 : List AI := [⟨none, (.mov 42 (.t 9))⟩, ⟨none, (.mov 43 (.t 42))⟩, ⟨(some (43, true)), (.mov 44 (.t 7))⟩, ⟨(some (43, true)), (.un 45 .not (.t 44))⟩, ⟨(some (43, true)), (.mov 46 (.t 45))⟩, ⟨(some (46, false)), (.mov 47 (.t 8))⟩, ⟨(some (46, false)), (.mov 48 (.t 6))⟩, ⟨(some (46, false)), (.bin 49 .gtr (.t 47) (.t 48))⟩, ⟨(some (43, true)), (.pick 50 (.t 46) (.v (.k (.c (.bool true)))) (.t 49))⟩, ⟨none, (.pick 51 (.t 43) (.t 50) (.v (.k (.c (.bool false)))))⟩]
def f66b35 : AQ := (.seq (.region f66r34) f66b33)
def f66b36 : AQ := (.seq f66b35 (.keep [1, 2, 5, 6, 7, 9] [1, 2, 5, 103] f66b31))
def f66r37 : List AI := [⟨none, (.faddr 35 0 (.t 1))⟩, ⟨none, (.load 36 1 false (.t 35))⟩, ⟨none, (.iaddr 37 1 (.t 36) (.v (.k (.c (.int .i64 1)))))⟩, ⟨none, (.load 38 1 false (.t 37))⟩, ⟨none, (.call (some 39) 88 [(.t 38)])⟩, ⟨none, (.mov 34 (.t 39))⟩, ⟨none, (.extr 40 (.t 34) 0)⟩, ⟨none, (.extr 41 (.t 34) 1)⟩, ⟨none, (.mov 8 (.t 40))⟩, ⟨none, (.mov 9 (.t 41))⟩]
def f66b38 : AQ := (.seq (.region f66r37) f66b36)
def f66r39 : List AI := [⟨none, (.faddr 27 0 (.t 1))⟩, ⟨none, (.load 28 1 false (.t 27))⟩, ⟨none, (.iaddr 29 1 (.t 28) (.v (.k (.c (.int .i64 0)))))⟩, ⟨none, (.load 30 1 false (.t 29))⟩, ⟨none, (.call (some 31) 88 [(.t 30)])⟩, ⟨none, (.mov 26 (.t 31))⟩, ⟨none, (.extr 32 (.t 26) 0)⟩, ⟨none, (.extr 33 (.t 26) 1)⟩, ⟨none, (.mov 6 (.t 32))⟩, ⟨none, (.mov 7 (.t 33))⟩]
def f66b40 : AQ := (.seq (.region f66r39) f66b38)
def f66r41 : List AI := [⟨none, (.alloc 5 72 [(.list 0 (some true) []), (.str []), (.int .i64 0)])⟩]
def f66b42 : AQ := (.seq (.region f66r41) f66b40)
def f66r43 : List AI := [⟨none, (.build 25 [(.list 0 (some true) []), (.str []), (.int .i64 0)] [])⟩, ⟨none, (.store 3 (.t 2) (.t 25))⟩, ⟨none, (.mov 3 (.v (.k (.c (.int .i64 22)))))⟩]
def f66b44 : AQ := (.seq (.region f66r43) .ret)
def f66b45 : AQ := (.cond (.t 24) f66b44 .skip)
def f66r46 : List AI := [⟨none, (.faddr 21 0 (.t 1))⟩, ⟨none, (.load 22 1 false (.t 21))⟩, ⟨none, (.len 23 (.t 22))⟩, ⟨none, (.bin 24 .leq (.t 23) (.v (.k (.c (.int .i64 2)))))⟩]
def f66b47 : AQ := (.seq (.region f66r46) f66b45)
def f66b48 : AQ := (.seq f66b47 f66b42)
def f66r49 : List AI := [⟨none, (.build 19 [(.list 0 (some true) []), (.str []), (.int .i64 0)] [])⟩, ⟨none, (.mov 20 (.t 4))⟩, ⟨none, (.store 3 (.t 2) (.t 19))⟩, ⟨none, (.mov 3 (.t 20))⟩]
def f66b50 : AQ := (.seq (.region f66r49) .ret)
def f66b51 : AQ := (.cond (.t 18) f66b50 .skip)
def f66r52 : List AI := [⟨none, (.mov 17 (.t 4))⟩, ⟨none, (.bin 18 .neq (.t 17) (.v (.k (.c (.int .i64 0)))))⟩]
def f66b53 : AQ := (.seq (.region f66r52) f66b51)
def f66r54 : List AI := [⟨none, (.load 15 4 true (.t 1))⟩, ⟨none, (.call (some 16) 58 [(.t 15)])⟩, ⟨none, (.mov 4 (.t 16))⟩]
def f66b55 : AQ := (.seq (.region f66r54) f66b53)
def f66b56 : AQ := (.seq f66b55 f66b48)
def f66r57 : List AI := [⟨none, (.box 1 25 (.t 0))⟩, ⟨none, (.alloc 2 72 [(.list 0 (some true) []), (.str []), (.int .i64 0)])⟩, ⟨none, (.mov 3 (.v (.k (.c (.int .i64 0)))))⟩]
def f66b58 : AQ := (.seq (.region f66r57) f66b56)
def f66 : AQ := f66b58
theorem hf66 : cFunc Tryz.prog 66 = some ⟨107, f66.erase, [(RX.cell 2 3 true), (RX.t 3)]⟩ := by kernel_rfl
theorem okf66 : f66.ok = true := by kernel_rfl
def f67r1 : List AI := [⟨none, (.mov 4 (.v (.k (.c (.int .i64 (-1))))))⟩]
def f67b2 : AQ := (.seq (.region f67r1) .ret)
def f67r3 : List AI := [⟨none, (.bin 18 .add (.t 8) (.v (.k (.c (.int .i64 1)))))⟩, ⟨none, (.mov 8 (.t 18))⟩]
def f67r4 : List AI := [⟨none, (.mov 17 (.t 5))⟩, ⟨none, (.mov 4 (.t 17))⟩]
def f67b5 : AQ := (.seq (.region f67r4) .ret)
def f67b6 : AQ := (.cond (.t 16) f67b5 .skip)
def f67r7 : List AI := [⟨none, (.mov 11 (.t 1))⟩, ⟨none, (.mov 12 (.t 0))⟩, ⟨none, (.mov 13 (.t 5))⟩, ⟨none, (.iaddr 14 1 (.t 12) (.t 13))⟩, ⟨none, (.load 15 1 false (.t 14))⟩, ⟨none, (.bin 16 .eql (.t 11) (.t 15))⟩]
def f67b8 : AQ := (.seq (.region f67r7) f67b6)
def f67r9 : List AI := [⟨none, (.mov 10 (.t 8))⟩, ⟨none, (.mov 5 (.t 10))⟩]
def f67b10 : AQ := (.seq (.region f67r9) f67b8)
def f67b11 : AQ := (.block 1 f67b10)
def f67b12 : AQ := (.seq f67b11 (.region f67r3))
def f67b13 : AQ := (.cond (.t 9) .skip (.exit 0))
def f67b14 : AQ := (.seq f67b13 f67b12)
def f67r15 : List AI := [⟨none, (.bin 9 .lss (.t 8) (.t 7))⟩]
def f67b16 : AQ := (.seq (.region f67r15) f67b14)
def f67l17 : AQ := .loop [0, 1, 7, 8] [] f67b16
theorem uf67l17 (P ts os Q) : awl P f67l17 Q ts os = awl P (.loop [0, 1, 7, 8] [] f67b16) Q ts os := id rfl
def f67b18 : AQ := (.block 0 f67l17)
def f67r19 : List AI := [⟨none, (.mov 6 (.t 0))⟩, ⟨none, (.len 7 (.t 6))⟩, ⟨none, (.mov 8 (.v (.k (.c (.int .i64 0)))))⟩]
def f67b20 : AQ := (.seq (.region f67r19) f67b18)
def f67b21 : AQ := (.seq f67b20 f67b2)
def f67r22 : List AI := [⟨none, (.mov 4 (.v (.k (.c (.int .i64 0)))))⟩]
def f67b23 : AQ := (.seq (.region f67r22) f67b21)
def f67 : AQ := f67b23
theorem hf67 : cFunc Tryz.prog 67 = some ⟨19, f67.erase, [(RX.t 4)]⟩ := by kernel_rfl
theorem okf67 : f67.ok = true := by kernel_rfl
def f68r1 : List AI := [⟨none, (.mov 3 (.t 0))⟩, ⟨none, (.lenS 4 (.t 3))⟩, ⟨none, (.call (some 5) 91 [(.t 4)])⟩, ⟨none, (.mov 6 (.t 0))⟩, ⟨none, (.bin 7 .add (.t 5) (.t 6))⟩, ⟨none, (.mov 2 (.t 7))⟩]
def f68b2 : AQ := (.seq (.region f68r1) .ret)
def f68r3 : List AI := [⟨none, (.mov 2 (.v (.k (.c (.str [])))))⟩]
def f68b4 : AQ := (.seq (.region f68r3) f68b2)
def f68 : AQ := f68b4
theorem hf68 : cFunc Tryz.prog 68 = some ⟨8, f68.erase, [(RX.t 2)]⟩ := by kernel_rfl
theorem okf68 : f68.ok = true := by kernel_rfl
def f69r1 : List AI := [⟨none, (.mov 19 (.t 3))⟩, ⟨none, (.mov 2 (.t 19))⟩]
def f69b2 : AQ := (.seq (.region f69r1) .ret)
def f69r3 : List AI := [⟨none, (.mov 9 (.t 4))⟩, ⟨none, (.bin 10 .add (.t 9) (.v (.k (.c (.int .i64 1)))))⟩, ⟨none, (.mov 4 (.t 10))⟩]
def f69r4 : List AI := [⟨none, (.mov 11 (.t 3))⟩, ⟨none, (.mov 12 (.t 0))⟩, ⟨none, (.mov 13 (.t 4))⟩, ⟨none, (.iaddr 14 1 (.t 12) (.t 13))⟩, ⟨none, (.load 15 1 false (.t 14))⟩, ⟨none, (.call (some 16) 70 [(.t 15)])⟩, ⟨none, (.lenS 17 (.t 16))⟩, ⟨none, (.bin 18 .add (.t 11) (.t 17))⟩, ⟨none, (.mov 3 (.t 18))⟩]
def f69b5 : AQ := (.block 1 (.region f69r4))
def f69b6 : AQ := (.seq f69b5 (.region f69r3))
def f69b7 : AQ := (.cond (.t 8) .skip (.exit 0))
def f69r8 : List AI := [⟨none, (.mov 5 (.t 4))⟩, ⟨none, (.mov 6 (.t 0))⟩, ⟨none, (.len 7 (.t 6))⟩, ⟨none, (.bin 8 .lss (.t 5) (.t 7))⟩]
def f69b9 : AQ := (.seq (.region f69r8) f69b7)
def f69b10 : AQ := (.seq f69b9 f69b6)
def f69l11 : AQ := .loop [0, 3, 4] [] f69b10
theorem uf69l11 (P ts os Q) : awl P f69l11 Q ts os = awl P (.loop [0, 3, 4] [] f69b10) Q ts os := id rfl
def f69b12 : AQ := (.block 0 f69l11)
def f69r13 : List AI := [⟨none, (.mov 4 (.v (.k (.c (.int .i64 0)))))⟩]
def f69b14 : AQ := (.seq (.region f69r13) f69b12)
def f69b15 : AQ := (.seq f69b14 f69b2)
def f69r16 : List AI := [⟨none, (.mov 3 (.v (.k (.c (.int .i64 0)))))⟩]
def f69b17 : AQ := (.seq (.region f69r16) f69b15)
def f69r18 : List AI := [⟨none, (.mov 2 (.v (.k (.c (.int .i64 0)))))⟩]
def f69b19 : AQ := (.seq (.region f69r18) f69b17)
def f69 : AQ := f69b19
theorem hf69 : cFunc Tryz.prog 69 = some ⟨20, f69.erase, [(RX.t 2)]⟩ := by kernel_rfl
theorem okf69 : f69.ok = true := by kernel_rfl
def f70r1 : List AI := [⟨none, (.mov 3 (.t 0))⟩, ⟨none, (.lenS 4 (.t 3))⟩, ⟨none, (.call (some 5) 92 [(.t 4)])⟩, ⟨none, (.mov 6 (.t 0))⟩, ⟨none, (.bin 7 .add (.t 5) (.t 6))⟩, ⟨none, (.mov 2 (.t 7))⟩]
def f70b2 : AQ := (.seq (.region f70r1) .ret)
def f70r3 : List AI := [⟨none, (.mov 2 (.v (.k (.c (.str [])))))⟩]
def f70b4 : AQ := (.seq (.region f70r3) f70b2)
def f70 : AQ := f70b4
theorem hf70 : cFunc Tryz.prog 70 = some ⟨8, f70.erase, [(RX.t 2)]⟩ := by kernel_rfl
theorem okf70 : f70.ok = true := by kernel_rfl
def f71r1 : List AI := [⟨none, (.mov 2 (.v (.k (.c (.bool true)))))⟩]
def f71b2 : AQ := (.seq (.region f71r1) .ret)
def f71r3 : List AI := [⟨none, (.bin 83 .add (.t 62) (.v (.k (.c (.int .i64 1)))))⟩, ⟨none, (.mov 62 (.t 83))⟩]
def f71r4 : List AI := [⟨none, (.mov 2 (.v (.k (.c (.bool false)))))⟩]
def f71b5 : AQ := (.seq (.region f71r4) .ret)
def f71b6 : AQ := (.cond (.t 82) f71b5 .skip)
def f71r7 : List AI := [⟨none, (.faddr 66 0 (.t 6))⟩, ⟨none, (.load 67 1 false (.t 66))⟩, ⟨none, (.bin 68 .lss (.t 67) (.v (.k (.c (.int .i64 0)))))⟩, ⟨none, (.mov 69 (.t 68))⟩, ⟨(some (69, false)), (.faddr 70 0 (.t 6))⟩, ⟨(some (69, false)), (.load 71 1 false (.t 70))⟩, ⟨(some (69, false)), (.faddr 72 0 (.t 1))⟩, ⟨(some (69, false)), (.load 73 1 false (.t 72))⟩, ⟨(some (69, false)), (.len 74 (.t 73))⟩, ⟨(some (69, false)), (.bin 75 .geq (.t 71) (.t 74))⟩, ⟨none, (.pick 76 (.t 69) (.v (.k (.c (.bool true)))) (.t 75))⟩, ⟨none, (.mov 77 (.t 76))⟩, ⟨(some (77, false)), (.faddr 78 1 (.t 6))⟩, ⟨(some (77, false)), (.load 79 1 false (.t 78))⟩, ⟨(some (77, false)), (.lenS 80 (.t 79))⟩, ⟨(some (77, false)), (.bin 81 .neq (.t 80) (.v (.k (.c (.int .i64 16)))))⟩, ⟨none, (.pick 82 (.t 77) (.v (.k (.c (.bool true)))) (.t 81))⟩]
def f71b8 : AQ := (.seq (.region f71r7) f71b6)
def f71r9 : List AI := [⟨none, (.iaddr 64 2 (.t 60) (.t 62))⟩, ⟨none, (.load 65 2 true (.t 64))⟩, ⟨none, (.alloc 6 52 [(.int .i64 0), (.str [])])⟩, ⟨none, (.store 2 (.t 6) (.t 65))⟩]
def f71b10 : AQ := (.seq (.region f71r9) f71b8)
def f71b11 : AQ := (.block 3 f71b10)
def f71b12 : AQ := (.seq f71b11 (.region f71r3))
def f71b13 : AQ := (.cond (.t 63) .skip (.exit 2))
def f71b14 : AQ := (.seq f71b13 f71b12)
def f71r15 : List AI := [⟨none, (.bin 63 .lss (.t 62) (.t 61))⟩]
def f71b16 : AQ := (.seq (.region f71r15) f71b14)
def f71l17 : AQ := .loop [1, 60, 61, 62] [1] f71b16
theorem uf71l17 (P ts os Q) : awl P f71l17 Q ts os = awl P (.loop [1, 60, 61, 62] [1] f71b16) Q ts os := id rfl
def f71b18 : AQ := (.block 2 f71l17)
def f71r19 : List AI := [⟨none, (.faddr 59 1 (.t 1))⟩, ⟨none, (.load 60 1 false (.t 59))⟩, ⟨none, (.len 61 (.t 60))⟩, ⟨none, (.mov 62 (.v (.k (.c (.int .i64 0)))))⟩]
def f71b20 : AQ := (.seq (.region f71r19) f71b18)
def f71b21 : AQ := (.seq f71b20 f71b2)
def f71r22 : List AI := [⟨none, (.bin 58 .add (.t 51) (.v (.k (.c (.int .i64 1)))))⟩, ⟨none, (.mov 51 (.t 58))⟩]
def f71r23 : List AI := [⟨none, (.mov 2 (.v (.k (.c (.bool false)))))⟩]
def f71b24 : AQ := (.seq (.region f71r23) .ret)
def f71b25 : AQ := (.cond (.t 57) f71b24 .skip)
def f71r26 : List AI := [⟨none, (.mov 55 (.t 4))⟩, ⟨none, (.lenS 56 (.t 55))⟩, ⟨none, (.bin 57 .neq (.t 56) (.v (.k (.c (.int .i64 16)))))⟩]
def f71b27 : AQ := (.seq (.region f71r26) f71b25)
def f71r28 : List AI := [⟨none, (.iaddr 53 1 (.t 49) (.t 51))⟩, ⟨none, (.load 54 1 false (.t 53))⟩, ⟨none, (.mov 4 (.t 54))⟩]
def f71b29 : AQ := (.seq (.region f71r28) f71b27)
def f71b30 : AQ := (.block 1 f71b29)
def f71b31 : AQ := (.seq f71b30 (.region f71r22))
def f71b32 : AQ := (.cond (.t 52) .skip (.exit 0))
def f71b33 : AQ := (.seq f71b32 f71b31)
def f71r34 : List AI := [⟨none, (.bin 52 .lss (.t 51) (.t 50))⟩]
def f71b35 : AQ := (.seq (.region f71r34) f71b33)
def f71l36 : AQ := .loop [1, 49, 50, 51] [1] f71b35
theorem uf71l36 (P ts os Q) : awl P f71l36 Q ts os = awl P (.loop [1, 49, 50, 51] [1] f71b35) Q ts os := id rfl
def f71b37 : AQ := (.block 0 f71l36)
def f71r38 : List AI := [⟨none, (.faddr 48 0 (.t 1))⟩, ⟨none, (.load 49 1 false (.t 48))⟩, ⟨none, (.len 50 (.t 49))⟩, ⟨none, (.mov 51 (.v (.k (.c (.int .i64 0)))))⟩]
def f71b39 : AQ := (.seq (.region f71r38) f71b37)
def f71b40 : AQ := (.seq f71b39 f71b21)
def f71r41 : List AI := [⟨none, (.mov 2 (.v (.k (.c (.bool false)))))⟩]
def f71b42 : AQ := (.seq (.region f71r41) .ret)
def f71b43 : AQ := (.cond (.t 47) f71b42 .skip)
def f71r44 : List AI := [⟨none, (.faddr 7 0 (.t 1))⟩, ⟨none, (.load 8 1 false (.t 7))⟩, ⟨none, (.len 9 (.t 8))⟩, ⟨none, (.bin 10 .lss (.t 9) (.v (.k (.c (.int .i64 1)))))⟩, ⟨none, (.mov 11 (.t 10))⟩, ⟨(some (11, false)), (.faddr 12 0 (.t 1))⟩, ⟨(some (11, false)), (.load 13 1 false (.t 12))⟩, ⟨(some (11, false)), (.len 14 (.t 13))⟩, ⟨(some (11, false)), (.bin 15 .gtr (.t 14) (.v (.k (.c (.int .i64 512)))))⟩, ⟨none, (.pick 16 (.t 11) (.v (.k (.c (.bool true)))) (.t 15))⟩, ⟨none, (.mov 17 (.t 16))⟩, ⟨(some (17, false)), (.faddr 18 1 (.t 1))⟩, ⟨(some (17, false)), (.load 19 1 false (.t 18))⟩, ⟨(some (17, false)), (.len 20 (.t 19))⟩, ⟨(some (17, false)), (.bin 21 .gtr (.t 20) (.v (.k (.c (.int .i64 512)))))⟩, ⟨none, (.pick 22 (.t 17) (.v (.k (.c (.bool true)))) (.t 21))⟩, ⟨none, (.mov 23 (.t 22))⟩, ⟨(some (23, false)), (.faddr 24 2 (.t 1))⟩, ⟨(some (23, false)), (.load 25 1 false (.t 24))⟩, ⟨(some (23, false)), (.bin 26 .lss (.t 25) (.v (.k (.c (.int .i64 (-1))))))⟩, ⟨none, (.pick 27 (.t 23) (.v (.k (.c (.bool true)))) (.t 26))⟩, ⟨none, (.mov 28 (.t 27))⟩, ⟨(some (28, false)), (.faddr 29 2 (.t 1))⟩, ⟨(some (28, false)), (.load 30 1 false (.t 29))⟩, ⟨(some (28, false)), (.bin 31 .gtr (.t 30) (.v (.k (.c (.int .i64 512)))))⟩, ⟨none, (.pick 32 (.t 28) (.v (.k (.c (.bool true)))) (.t 31))⟩, ⟨none, (.mov 33 (.t 32))⟩, ⟨(some (33, false)), (.faddr 34 3 (.t 1))⟩, ⟨(some (33, false)), (.load 35 1 false (.t 34))⟩, ⟨(some (33, false)), (.mov 36 (.t 35))⟩, ⟨(some (36, true)), (.faddr 37 1 (.t 1))⟩, ⟨(some (36, true)), (.load 38 1 false (.t 37))⟩, ⟨(some (36, true)), (.len 39 (.t 38))⟩, ⟨(some (36, true)), (.bin 40 .gtr (.t 39) (.v (.k (.c (.int .i64 0)))))⟩, ⟨(some (36, true)), (.mov 41 (.t 40))⟩, ⟨(some (41, false)), (.faddr 42 2 (.t 1))⟩, ⟨(some (41, false)), (.load 43 1 false (.t 42))⟩, ⟨(some (41, false)), (.bin 44 .neq (.t 43) (.v (.k (.c (.int .i64 (-1))))))⟩, ⟨(some (36, true)), (.pick 45 (.t 41) (.v (.k (.c (.bool true)))) (.t 44))⟩, ⟨(some (33, false)), (.pick 46 (.t 36) (.t 45) (.v (.k (.c (.bool false)))))⟩, ⟨none, (.pick 47 (.t 33) (.v (.k (.c (.bool true)))) (.t 46))⟩]
def f71b45 : AQ := (.seq (.region f71r44) f71b43)
def f71b46 : AQ := (.seq f71b45 f71b40)
def f71r47 : List AI := [⟨none, (.box 1 25 (.t 0))⟩, ⟨none, (.mov 2 (.v (.k (.c (.bool false)))))⟩]
def f71b48 : AQ := (.seq (.region f71r47) f71b46)
def f71 : AQ := f71b48
theorem hf71 : cFunc Tryz.prog 71 = some ⟨84, f71.erase, [(RX.t 2)]⟩ := by kernel_rfl
theorem okf71 : f71.ok = true := by kernel_rfl
def f73r1 : List AI := [⟨none, (.mov 5 (.t 0))⟩, ⟨none, (.mov 6 (.t 1))⟩, ⟨none, (.call (some 7) 94 [(.t 5), (.t 6)])⟩, ⟨none, (.bin 8 .geq (.t 7) (.v (.k (.c (.int .i64 0)))))⟩, ⟨none, (.mov 4 (.t 8))⟩]
def f73b2 : AQ := (.seq (.region f73r1) .ret)
def f73r3 : List AI := [⟨none, (.mov 4 (.v (.k (.c (.bool false)))))⟩]
def f73b4 : AQ := (.seq (.region f73r3) f73b2)
def f73 : AQ := f73b4
theorem hf73 : cFunc Tryz.prog 73 = some ⟨9, f73.erase, [(RX.t 4)]⟩ := by kernel_rfl
theorem okf73 : f73.ok = true := by kernel_rfl
def f74r1 : List AI := [⟨none, (.mov 3 (.t 0))⟩, ⟨none, (.len 4 (.t 3))⟩, ⟨none, (.bin 5 .gtr (.t 4) (.v (.k (.c (.int .i64 500)))))⟩, ⟨none, (.mov 2 (.t 5))⟩]
def f74b2 : AQ := (.seq (.region f74r1) .ret)
def f74r3 : List AI := [⟨none, (.mov 2 (.v (.k (.c (.bool false)))))⟩]
def f74b4 : AQ := (.seq (.region f74r3) f74b2)
def f74 : AQ := f74b4
theorem hf74 : cFunc Tryz.prog 74 = some ⟨6, f74.erase, [(RX.t 2)]⟩ := by kernel_rfl
theorem okf74 : f74.ok = true := by kernel_rfl
def f78r1 : List AI := [⟨none, (.mov 28 (.t 8))⟩, ⟨none, (.mov 29 (.t 9))⟩, ⟨none, (.mov 4 (.t 28))⟩, ⟨none, (.mov 5 (.t 29))⟩]
def f78b2 : AQ := (.seq (.region f78r1) .ret)
def f78r3 : List AI := [⟨none, (.mov 23 (.t 0))⟩, ⟨none, (.mov 24 (.t 1))⟩, ⟨none, (.call (some 25) 107 [(.t 23), (.t 24)])⟩, ⟨none, (.mov 22 (.t 25))⟩, ⟨none, (.extr 26 (.t 22) 0)⟩, ⟨none, (.extr 27 (.t 22) 1)⟩, ⟨none, (.mov 8 (.t 26))⟩, ⟨none, (.mov 9 (.t 27))⟩]
def f78b4 : AQ := (.seq (.region f78r3) f78b2)
def f78r5 : List AI := [⟨none, (.mov 18 (.t 6))⟩, ⟨none, (.conv 19 .u64 (.t 18))⟩, ⟨none, (.mov 20 (.t 7))⟩, ⟨none, (.conv 21 .u64 (.t 20))⟩, ⟨none, (.mov 4 (.t 19))⟩, ⟨none, (.mov 5 (.t 21))⟩]
def f78b6 : AQ := (.seq (.region f78r5) .ret)
def f78r7 : List AI := [⟨none, (.mov 11 (.t 0))⟩, ⟨none, (.conv 12 .u32 (.t 11))⟩, ⟨none, (.mov 13 (.t 1))⟩, ⟨none, (.conv 14 .u32 (.t 13))⟩, ⟨none, (.call (some 15) 106 [(.t 12), (.t 14)])⟩, ⟨none, (.mov 10 (.t 15))⟩, ⟨none, (.extr 16 (.t 10) 0)⟩, ⟨none, (.extr 17 (.t 10) 1)⟩, ⟨none, (.mov 6 (.t 16))⟩, ⟨none, (.mov 7 (.t 17))⟩]
def f78b8 : AQ := (.seq (.region f78r7) f78b6)
def f78b9 : AQ := (.cond (.v (.k (.c (.bool false)))) f78b8 .skip)
def f78b10 : AQ := (.seq f78b9 f78b4)
def f78r11 : List AI := [⟨none, (.mov 4 (.v (.k (.c (.int .u64 0)))))⟩, ⟨none, (.mov 5 (.v (.k (.c (.int .u64 0)))))⟩]
def f78b12 : AQ := (.seq (.region f78r11) f78b10)
def f78 : AQ := f78b12
theorem hf78 : cFunc Tryz.prog 78 = some ⟨30, f78.erase, [(RX.t 4), (RX.t 5)]⟩ := by kernel_rfl
theorem okf78 : f78.ok = true := by kernel_rfl
def f79r1 : List AI := [⟨none, (.mov 5 (.t 0))⟩, ⟨none, (.mov 6 (.t 1))⟩, ⟨none, (.call (some 7) 108 [(.t 5), (.t 6)])⟩, ⟨none, (.mov 4 (.t 7))⟩]
def f79b2 : AQ := (.seq (.region f79r1) .ret)
def f79r3 : List AI := [⟨none, (.mov 4 (.v (.k (.c (.bool false)))))⟩]
def f79b4 : AQ := (.seq (.region f79r3) f79b2)
def f79 : AQ := f79b4
theorem hf79 : cFunc Tryz.prog 79 = some ⟨8, f79.erase, [(RX.t 4)]⟩ := by kernel_rfl
theorem okf79 : f79.ok = true := by kernel_rfl
def f84r1 : List AI := [⟨none, (.mov 2 (.v (.k (.c (.int .i64 0)))))⟩]
def f84b2 : AQ := (.seq (.region f84r1) .ret)
def f84r3 : List AI := [⟨none, (.mov 2 (.v (.k (.c (.int .i64 1)))))⟩]
def f84b4 : AQ := (.seq (.region f84r3) .ret)
def f84b5 : AQ := (.cond (.t 5) f84b4 .skip)
def f84r6 : List AI := [⟨none, (.load 3 4 true (.t 1))⟩, ⟨none, (.call (some 4) 71 [(.t 3)])⟩, ⟨none, (.un 5 .not (.t 4))⟩]
def f84b7 : AQ := (.seq (.region f84r6) f84b5)
def f84b8 : AQ := (.seq f84b7 f84b2)
def f84r9 : List AI := [⟨none, (.box 1 25 (.t 0))⟩, ⟨none, (.mov 2 (.v (.k (.c (.int .i64 0)))))⟩]
def f84b10 : AQ := (.seq (.region f84r9) f84b8)
def f84 : AQ := f84b10
theorem hf84 : cFunc Tryz.prog 84 = some ⟨6, f84.erase, [(RX.t 2)]⟩ := by kernel_rfl
theorem okf84 : f84.ok = true := by kernel_rfl
def f85r1 : List AI := [⟨none, (.load 6 4 true (.t 1))⟩, ⟨none, (.store 4 (.t 2) (.t 6))⟩]
def f85b2 : AQ := (.seq (.region f85r1) .ret)
def f85r3 : List AI := [⟨none, (.faddr 3 1 (.t 1))⟩, ⟨none, (.store 1 (.t 3) (.v (.k (.c (.list 0 (some true) [])))))⟩, ⟨none, (.faddr 4 2 (.t 1))⟩, ⟨none, (.store 1 (.t 4) (.v (.k (.c (.int .i64 (-1))))))⟩, ⟨none, (.faddr 5 3 (.t 1))⟩, ⟨none, (.store 1 (.t 5) (.v (.k (.c (.bool true)))))⟩]
def f85b4 : AQ := (.seq (.region f85r3) f85b2)
def f85r5 : List AI := [⟨none, (.box 1 25 (.t 0))⟩, ⟨none, (.alloc 2 25 [(.list 0 (some true) []), (.list 0 (some true) []), (.int .i64 0), (.bool false)])⟩]
def f85b6 : AQ := (.seq (.region f85r5) f85b4)
def f85 : AQ := f85b6
theorem hf85 : cFunc Tryz.prog 85 = some ⟨7, f85.erase, [(RX.cell 2 4 true)]⟩ := by kernel_rfl
theorem okf85 : f85.ok = true := by kernel_rfl
def f86r1 : List AI := [⟨none, (.mov 12 (.t 3))⟩, ⟨none, (.mov 2 (.t 12))⟩]
def f86b2 : AQ := (.seq (.region f86r1) .ret)
def f86r3 : List AI := [⟨none, (.mov 2 (.v (.k (.c (.int .i64 8)))))⟩]
def f86b4 : AQ := (.seq (.region f86r3) .ret)
def f86b5 : AQ := (.cond (.t 11) f86b4 .skip)
def f86r6 : List AI := [⟨none, (.mov 6 (.t 3))⟩, ⟨none, (.bin 7 .eql (.t 6) (.v (.k (.c (.int .i64 0)))))⟩, ⟨none, (.mov 8 (.t 7))⟩, ⟨(some (8, true)), (.faddr 9 3 (.t 1))⟩, ⟨(some (8, true)), (.load 10 1 false (.t 9))⟩, ⟨none, (.pick 11 (.t 8) (.t 10) (.v (.k (.c (.bool false)))))⟩]
def f86b7 : AQ := (.seq (.region f86r6) f86b5)
def f86b8 : AQ := (.seq f86b7 f86b2)
def f86r9 : List AI := [⟨none, (.load 4 4 true (.t 1))⟩, ⟨none, (.call (some 5) 42 [(.t 4)])⟩, ⟨none, (.mov 3 (.t 5))⟩]
def f86b10 : AQ := (.seq (.region f86r9) f86b8)
def f86r11 : List AI := [⟨none, (.box 1 25 (.t 0))⟩, ⟨none, (.mov 2 (.v (.k (.c (.int .i64 0)))))⟩]
def f86b12 : AQ := (.seq (.region f86r11) f86b10)
def f86 : AQ := f86b12
theorem hf86 : cFunc Tryz.prog 86 = some ⟨13, f86.erase, [(RX.t 2)]⟩ := by kernel_rfl
theorem okf86 : f86.ok = true := by kernel_rfl
def f87r1 : List AI := [⟨none, (.mov 43 (.t 5))⟩, ⟨none, (.mov 4 (.t 43))⟩]
def f87b2 : AQ := (.seq (.region f87r1) .ret)
def f87r3 : List AI := [⟨none, (.mov 27 (.t 7))⟩, ⟨none, (.bin 28 .add (.t 27) (.v (.k (.c (.int .i64 1)))))⟩, ⟨none, (.mov 7 (.t 28))⟩]
def f87r4 : List AI := [⟨none, (.mov 29 (.t 5))⟩, ⟨none, (.faddr 30 1 (.t 2))⟩, ⟨none, (.load 31 1 false (.t 30))⟩, ⟨none, (.mov 32 (.t 7))⟩, ⟨none, (.iaddr 33 2 (.t 31) (.t 32))⟩, ⟨none, (.faddr 34 0 (.t 33))⟩, ⟨none, (.load 35 1 false (.t 34))⟩, ⟨none, (.faddr 36 1 (.t 2))⟩, ⟨none, (.load 37 1 false (.t 36))⟩, ⟨none, (.mov 38 (.t 7))⟩, ⟨none, (.iaddr 39 2 (.t 37) (.t 38))⟩, ⟨none, (.faddr 40 1 (.t 39))⟩, ⟨none, (.load 41 1 false (.t 40))⟩, ⟨none, (.iaddr 42 1 (.t 29) (.t 35))⟩, ⟨none, (.store 1 (.t 42) (.t 41))⟩]
def f87b5 : AQ := (.block 3 (.draw f87r4 [[], [], [1], [], [2, 3], [4], [5], [], [7], [], [8, 9], [10], [11], [0, 6, 0, 1, 2, 3, 4, 5, 6, 7, 8, 9, 10, 11, 12], [13, 12, 0, 1, 2, 3, 4, 5, 6, 7, 8, 9, 10, 11, 12]]))
def f87b6 : AQ := (.seq f87b5 (.region f87r3))
def f87b7 : AQ := (.cond (.t 26) .skip (.exit 2))
def f87r8 : List AI := [⟨none, (.mov 24 (.t 7))⟩, ⟨none, (.mov 25 (.t 1))⟩, ⟨none, (.bin 26 .lss (.t 24) (.t 25))⟩]
def f87b9 : AQ := (.seq (.region f87r8) f87b7)
def f87b10 : AQ := (.seq f87b9 f87b6)
def f87l11 : AQ := .loop [1, 2, 5, 7] [2, 8, 23] f87b10
theorem uf87l11 (P ts os Q) : awl P f87l11 Q ts os = awl P (.loop [1, 2, 5, 7] [2, 8, 23] f87b10) Q ts os := id rfl
def f87b12 : AQ := (.block 2 f87l11)
def f87r13 : List AI := [⟨none, (.mov 7 (.v (.k (.c (.int .i64 0)))))⟩]
def f87b14 : AQ := (.seq (.region f87r13) f87b12)
def f87b15 : AQ := (.seq f87b14 f87b2)
def f87r16 : List AI := [⟨none, (.mov 14 (.t 6))⟩, ⟨none, (.bin 15 .add (.t 14) (.v (.k (.c (.int .i64 1)))))⟩, ⟨none, (.mov 6 (.t 15))⟩]
def f87r17 : List AI := [⟨none, (.mov 16 (.t 5))⟩, ⟨none, (.faddr 17 0 (.t 2))⟩, ⟨none, (.load 18 1 false (.t 17))⟩, ⟨none, (.mov 19 (.t 6))⟩, ⟨none, (.iaddr 20 1 (.t 18) (.t 19))⟩, ⟨none, (.load 21 1 false (.t 20))⟩, ⟨none, (.bslice 22 9 1 [(.str [])] 1 [(0, (.t 21))])⟩, ⟨none, (.append 23 9 1 16 (.t 16) (.t 22))⟩, ⟨none, (.mov 5 (.t 23))⟩]
def f87b18 : AQ := (.block 1 (.region f87r17))
def f87b19 : AQ := (.seq f87b18 (.region f87r16))
def f87b20 : AQ := (.cond (.t 13) .skip (.exit 0))
def f87r21 : List AI := [⟨none, (.mov 9 (.t 6))⟩, ⟨none, (.faddr 10 0 (.t 2))⟩, ⟨none, (.load 11 1 false (.t 10))⟩, ⟨none, (.len 12 (.t 11))⟩, ⟨none, (.bin 13 .lss (.t 9) (.t 12))⟩]
def f87b22 : AQ := (.seq (.region f87r21) f87b20)
def f87b23 : AQ := (.seq f87b22 f87b19)
def f87l24 : AQ := .loop [1, 2, 5, 6] [2, 8, 23] f87b23
theorem uf87l24 (P ts os Q) : awl P f87l24 Q ts os = awl P (.loop [1, 2, 5, 6] [2, 8, 23] f87b23) Q ts os := id rfl
def f87b25 : AQ := (.block 0 f87l24)
def f87r26 : List AI := [⟨none, (.mov 6 (.v (.k (.c (.int .i64 0)))))⟩]
def f87b27 : AQ := (.seq (.region f87r26) f87b25)
def f87b28 : AQ := (.seq f87b27 f87b15)
def f87r29 : List AI := [⟨none, (.bslice 8 9 1 [(.str [])] 0 [])⟩, ⟨none, (.mov 5 (.t 8))⟩]
def f87b30 : AQ := (.seq (.region f87r29) f87b28)
def f87r31 : List AI := [⟨none, (.box 2 25 (.t 0))⟩, ⟨none, (.nilL 4 9 1)⟩]
def f87b32 : AQ := (.seq (.region f87r31) f87b30)
def f87 : AQ := f87b32
theorem hf87 : cFunc Tryz.prog 87 = some ⟨44, f87.erase, [(RX.t 4)]⟩ := by kernel_rfl
theorem okf87 : f87.ok = true := by kernel_rfl
def f88r1 : List AI := [⟨none, (.mov 33 (.t 4))⟩, ⟨none, (.mov 2 (.t 33))⟩, ⟨none, (.mov 3 (.v (.k (.c (.bool true)))))⟩]
def f88b2 : AQ := (.seq (.region f88r1) .ret)
def f88r3 : List AI := [⟨none, (.bin 32 .add (.t 11) (.v (.k (.c (.int .i64 1)))))⟩, ⟨none, (.mov 11 (.t 32))⟩]
def f88r4 : List AI := [⟨none, (.mov 24 (.t 4))⟩, ⟨none, (.bin 25 .mul (.v (.k (.c (.int .i64 10)))) (.t 24))⟩, ⟨none, (.mov 26 (.t 0))⟩, ⟨none, (.mov 27 (.t 5))⟩, ⟨none, (.sidx 28 (.t 26) (.t 27))⟩, ⟨none, (.bin 29 .sub (.t 28) (.v (.k (.c (.int .u8 48)))))⟩, ⟨none, (.conv 30 .i64 (.t 29))⟩, ⟨none, (.bin 31 .add (.t 25) (.t 30))⟩, ⟨none, (.mov 4 (.t 31))⟩]
def f88r5 : List AI := [⟨none, (.mov 2 (.v (.k (.c (.int .i64 0)))))⟩, ⟨none, (.mov 3 (.v (.k (.c (.bool false)))))⟩]
def f88b6 : AQ := (.seq (.region f88r5) .ret)
def f88b7 : AQ := (.cond (.t 23) f88b6 .skip)
def f88r8 : List AI := [⟨none, (.mov 14 (.t 0))⟩, ⟨none, (.mov 15 (.t 5))⟩, ⟨none, (.sidx 16 (.t 14) (.t 15))⟩, ⟨none, (.bin 17 .lss (.t 16) (.v (.k (.c (.int .u8 48)))))⟩, ⟨none, (.mov 18 (.t 17))⟩, ⟨(some (18, false)), (.mov 19 (.t 0))⟩, ⟨(some (18, false)), (.mov 20 (.t 5))⟩, ⟨(some (18, false)), (.sidx 21 (.t 19) (.t 20))⟩, ⟨(some (18, false)), (.bin 22 .gtr (.t 21) (.v (.k (.c (.int .u8 57)))))⟩, ⟨none, (.pick 23 (.t 18) (.v (.k (.c (.bool true)))) (.t 22))⟩]
def f88b9 : AQ := (.seq (.region f88r8) f88b7)
def f88b10 : AQ := (.seq f88b9 (.region f88r4))
def f88r11 : List AI := [⟨none, (.mov 13 (.t 11))⟩, ⟨none, (.mov 5 (.t 13))⟩]
def f88b12 : AQ := (.seq (.region f88r11) f88b10)
def f88b13 : AQ := (.block 1 f88b12)
def f88b14 : AQ := (.seq f88b13 (.region f88r3))
def f88b15 : AQ := (.cond (.t 12) .skip (.exit 0))
def f88b16 : AQ := (.seq f88b15 f88b14)
def f88r17 : List AI := [⟨none, (.bin 12 .lss (.t 11) (.v (.k (.c (.int .i64 8)))))⟩]
def f88b18 : AQ := (.seq (.region f88r17) f88b16)
def f88l19 : AQ := .loop [0, 4, 11] [] f88b18
theorem uf88l19 (P ts os Q) : awl P f88l19 Q ts os = awl P (.loop [0, 4, 11] [] f88b18) Q ts os := id rfl
def f88b20 : AQ := (.block 0 f88l19)
def f88r21 : List AI := [⟨none, (.mov 11 (.v (.k (.c (.int .i64 0)))))⟩]
def f88b22 : AQ := (.seq (.region f88r21) f88b20)
def f88b23 : AQ := (.seq f88b22 f88b2)
def f88r24 : List AI := [⟨none, (.mov 4 (.v (.k (.c (.int .i64 0)))))⟩]
def f88b25 : AQ := (.seq (.region f88r24) f88b23)
def f88r26 : List AI := [⟨none, (.mov 2 (.v (.k (.c (.int .i64 0)))))⟩, ⟨none, (.mov 3 (.v (.k (.c (.bool false)))))⟩]
def f88b27 : AQ := (.seq (.region f88r26) .ret)
def f88b28 : AQ := (.cond (.t 10) f88b27 .skip)
def f88r29 : List AI := [⟨none, (.mov 6 (.t 0))⟩, ⟨none, (.slstr 7 (.t 6) none (some (.v (.k (.c (.int .i64 8))))))⟩, ⟨none, (.mov 8 (.t 0))⟩, ⟨none, (.slstr 9 (.t 8) (some (.v (.k (.c (.int .i64 8))))) none)⟩, ⟨none, (.bin 10 .neq (.t 7) (.t 9))⟩]
def f88b30 : AQ := (.seq (.draw f88r29 [[], [0], [], [2], [1, 3]]) f88b28)
def f88b31 : AQ := (.seq f88b30 f88b25)
def f88r32 : List AI := [⟨none, (.mov 2 (.v (.k (.c (.int .i64 0)))))⟩, ⟨none, (.mov 3 (.v (.k (.c (.bool false)))))⟩]
def f88b33 : AQ := (.seq (.region f88r32) f88b31)
def f88 : AQ := f88b33
theorem hf88 : cFunc Tryz.prog 88 = some ⟨34, f88.erase, [(RX.t 2), (RX.t 3)]⟩ := by kernel_rfl
theorem okf88 : f88.ok = true := by kernel_rfl
def f90r1 : List AI := [⟨none, (.mov 24 (.t 3))⟩, ⟨none, (.mov 25 (.t 5))⟩, ⟨none, (.slstr 26 (.t 24) none (some (.t 25)))⟩, ⟨none, (.mov 27 (.t 3))⟩, ⟨none, (.mov 28 (.t 5))⟩, ⟨none, (.slstr 29 (.t 27) (some (.t 28)) none)⟩, ⟨none, (.mov 2 (.t 26))⟩, ⟨none, (.mov 3 (.t 29))⟩, ⟨none, (.mov 4 (.v (.k (.c (.bool true)))))⟩]
def f90b2 : AQ := (.seq (.draw f90r1 [[], [], [0, 1], [], [], [3, 4], [2, 0, 1, 2], [5, 6, 0, 1, 2, 3, 4, 5, 6], [7, 0, 1, 2, 3, 4, 5, 6, 7]]) .ret)
def f90r3 : List AI := [⟨none, (.mov 2 (.v (.k (.c (.str [])))))⟩, ⟨none, (.mov 3 (.v (.k (.c (.str [])))))⟩, ⟨none, (.mov 4 (.v (.k (.c (.bool false)))))⟩]
def f90b4 : AQ := (.seq (.region f90r3) .ret)
def f90b5 : AQ := (.cond (.t 23) f90b4 .skip)
def f90r6 : List AI := [⟨none, (.mov 12 (.t 4))⟩, ⟨none, (.un 13 .not (.t 12))⟩, ⟨none, (.mov 14 (.t 13))⟩, ⟨(some (14, false)), (.mov 15 (.t 5))⟩, ⟨(some (14, false)), (.bin 16 .lss (.t 15) (.v (.k (.c (.int .i64 0)))))⟩, ⟨none, (.pick 17 (.t 14) (.v (.k (.c (.bool true)))) (.t 16))⟩, ⟨none, (.mov 18 (.t 17))⟩, ⟨(some (18, false)), (.mov 19 (.t 5))⟩, ⟨(some (18, false)), (.mov 20 (.t 3))⟩, ⟨(some (18, false)), (.lenS 21 (.t 20))⟩, ⟨(some (18, false)), (.bin 22 .gtr (.t 19) (.t 21))⟩, ⟨none, (.pick 23 (.t 18) (.v (.k (.c (.bool true)))) (.t 22))⟩]
def f90b7 : AQ := (.seq (.region f90r6) f90b5)
def f90b8 : AQ := (.seq f90b7 f90b2)
def f90r9 : List AI := [⟨none, (.mov 7 (.t 0))⟩, ⟨none, (.call (some 8) 111 [(.t 7)])⟩, ⟨none, (.mov 6 (.t 8))⟩, ⟨none, (.extr 9 (.t 6) 0)⟩, ⟨none, (.extr 10 (.t 6) 1)⟩, ⟨none, (.extr 11 (.t 6) 2)⟩, ⟨none, (.mov 5 (.t 9))⟩, ⟨none, (.mov 3 (.t 10))⟩, ⟨none, (.mov 4 (.t 11))⟩]
def f90b10 : AQ := (.seq (.region f90r9) f90b8)
def f90r11 : List AI := [⟨none, (.mov 2 (.v (.k (.c (.str [])))))⟩, ⟨none, (.mov 3 (.v (.k (.c (.str [])))))⟩, ⟨none, (.mov 4 (.v (.k (.c (.bool false)))))⟩]
def f90b12 : AQ := (.seq (.region f90r11) f90b10)
def f90 : AQ := f90b12
theorem hf90 : cFunc Tryz.prog 90 = some ⟨30, f90.erase, [(RX.t 2), (RX.t 3), (RX.t 4)]⟩ := by kernel_rfl
theorem okf90 : f90.ok = true := by kernel_rfl
def f91r1 : List AI := [⟨none, (.mov 3 (.t 0))⟩, ⟨none, (.call (some 4) 112 [(.t 3)])⟩, ⟨none, (.bin 5 .add (.t 4) (.v (.k (.c (.str [59])))))⟩, ⟨none, (.mov 2 (.t 5))⟩]
def f91b2 : AQ := (.seq (.region f91r1) .ret)
def f91r3 : List AI := [⟨none, (.mov 2 (.v (.k (.c (.str [])))))⟩]
def f91b4 : AQ := (.seq (.region f91r3) f91b2)
def f91 : AQ := f91b4
theorem hf91 : cFunc Tryz.prog 91 = some ⟨6, f91.erase, [(RX.t 2)]⟩ := by kernel_rfl
theorem okf91 : f91.ok = true := by kernel_rfl
def f92r1 : List AI := [⟨none, (.mov 34 (.t 3))⟩, ⟨none, (.mov 2 (.t 34))⟩]
def f92b2 : AQ := (.seq (.region f92r1) .ret)
def f92r3 : List AI := [⟨none, (.mov 32 (.t 3))⟩, ⟨none, (.bin 33 .add (.v (.k (.c (.str [45])))) (.t 32))⟩, ⟨none, (.mov 3 (.t 33))⟩]
def f92b4 : AQ := (.cond (.t 31) (.region f92r3) .skip)
def f92r5 : List AI := [⟨none, (.mov 30 (.t 0))⟩, ⟨none, (.bin 31 .lss (.t 30) (.v (.k (.c (.int .i64 0)))))⟩]
def f92b6 : AQ := (.seq (.region f92r5) f92b4)
def f92b7 : AQ := (.seq f92b6 f92b2)
def f92r8 : List AI := [⟨none, (.mov 14 (.t 5))⟩, ⟨none, (.bin 15 .add (.t 14) (.v (.k (.c (.int .i64 1)))))⟩, ⟨none, (.mov 5 (.t 15))⟩]
def f92r9 : List AI := [⟨none, (.mov 28 (.t 4))⟩, ⟨none, (.bin 29 .quo (.t 28) (.v (.k (.c (.int .i64 10)))))⟩, ⟨none, (.mov 4 (.t 29))⟩]
def f92r10 : List AI := [⟨none, (.mov 22 (.t 6))⟩, ⟨none, (.mov 23 (.t 6))⟩, ⟨none, (.bin 24 .add (.t 23) (.v (.k (.c (.int .i64 1)))))⟩, ⟨none, (.slstr 25 (.v (.k (.c (.str [48, 49, 50, 51, 52, 53, 54, 55, 56, 57])))) (some (.t 22)) (some (.t 24)))⟩, ⟨none, (.mov 26 (.t 3))⟩, ⟨none, (.bin 27 .add (.t 25) (.t 26))⟩, ⟨none, (.mov 3 (.t 27))⟩]
def f92b11 : AQ := (.seq (.region f92r10) (.region f92r9))
def f92r12 : List AI := [⟨none, (.mov 20 (.t 6))⟩, ⟨none, (.un 21 .neg (.t 20))⟩, ⟨none, (.mov 6 (.t 21))⟩]
def f92b13 : AQ := (.cond (.t 19) (.region f92r12) .skip)
def f92r14 : List AI := [⟨none, (.mov 18 (.t 6))⟩, ⟨none, (.bin 19 .lss (.t 18) (.v (.k (.c (.int .i64 0)))))⟩]
def f92b15 : AQ := (.seq (.region f92r14) f92b13)
def f92b16 : AQ := (.seq f92b15 f92b11)
def f92r17 : List AI := [⟨none, (.mov 16 (.t 4))⟩, ⟨none, (.bin 17 .rem (.t 16) (.v (.k (.c (.int .i64 10)))))⟩, ⟨none, (.mov 6 (.t 17))⟩]
def f92b18 : AQ := (.seq (.region f92r17) f92b16)
def f92b19 : AQ := (.block 1 f92b18)
def f92b20 : AQ := (.seq f92b19 (.region f92r8))
def f92b21 : AQ := (.cond (.t 13) .skip (.exit 0))
def f92r22 : List AI := [⟨none, (.mov 8 (.t 5))⟩, ⟨none, (.bin 9 .eql (.t 8) (.v (.k (.c (.int .i64 0)))))⟩, ⟨none, (.mov 10 (.t 9))⟩, ⟨(some (10, false)), (.mov 11 (.t 4))⟩, ⟨(some (10, false)), (.bin 12 .neq (.t 11) (.v (.k (.c (.int .i64 0)))))⟩, ⟨none, (.pick 13 (.t 10) (.v (.k (.c (.bool true)))) (.t 12))⟩]
def f92b23 : AQ := (.seq (.region f92r22) f92b21)
def f92b24 : AQ := (.seq f92b23 f92b20)
def f92l25 : AQ := .loop [0, 3, 4, 5] [] f92b24
theorem uf92l25 (P ts os Q) : awl P f92l25 Q ts os = awl P (.loop [0, 3, 4, 5] [] f92b24) Q ts os := id rfl
def f92b26 : AQ := (.block 0 f92l25)
def f92r27 : List AI := [⟨none, (.mov 5 (.v (.k (.c (.int .i64 0)))))⟩]
def f92b28 : AQ := (.seq (.region f92r27) f92b26)
def f92b29 : AQ := (.seq f92b28 f92b7)
def f92r30 : List AI := [⟨none, (.mov 7 (.t 0))⟩, ⟨none, (.mov 4 (.t 7))⟩]
def f92b31 : AQ := (.seq (.region f92r30) f92b29)
def f92r32 : List AI := [⟨none, (.mov 3 (.v (.k (.c (.str [59])))))⟩]
def f92b33 : AQ := (.seq (.region f92r32) f92b31)
def f92r34 : List AI := [⟨none, (.mov 2 (.v (.k (.c (.str [])))))⟩]
def f92b35 : AQ := (.seq (.region f92r34) f92b33)
def f92 : AQ := f92b35
theorem hf92 : cFunc Tryz.prog 92 = some ⟨35, f92.erase, [(RX.t 2)]⟩ := by kernel_rfl
theorem okf92 : f92.ok = true := by kernel_rfl
def f94r1 : List AI := [⟨none, (.mov 4 (.v (.k (.c (.int .i64 (-1))))))⟩]
def f94b2 : AQ := (.seq (.region f94r1) .ret)
def f94r3 : List AI := [⟨none, (.bin 18 .add (.t 8) (.v (.k (.c (.int .i64 1)))))⟩, ⟨none, (.mov 8 (.t 18))⟩]
def f94r4 : List AI := [⟨none, (.mov 17 (.t 5))⟩, ⟨none, (.mov 4 (.t 17))⟩]
def f94b5 : AQ := (.seq (.region f94r4) .ret)
def f94b6 : AQ := (.cond (.t 16) f94b5 .skip)
def f94r7 : List AI := [⟨none, (.mov 11 (.t 1))⟩, ⟨none, (.mov 12 (.t 0))⟩, ⟨none, (.mov 13 (.t 5))⟩, ⟨none, (.iaddr 14 1 (.t 12) (.t 13))⟩, ⟨none, (.load 15 1 false (.t 14))⟩, ⟨none, (.callv (some 16) (.t 11) [(.t 15)])⟩]
def f94b8 : AQ := (.seq (.region f94r7) f94b6)
def f94r9 : List AI := [⟨none, (.mov 10 (.t 8))⟩, ⟨none, (.mov 5 (.t 10))⟩]
def f94b10 : AQ := (.seq (.region f94r9) f94b8)
def f94b11 : AQ := (.block 1 f94b10)
def f94b12 : AQ := (.seq f94b11 (.region f94r3))
def f94b13 : AQ := (.cond (.t 9) .skip (.exit 0))
def f94b14 : AQ := (.seq f94b13 f94b12)
def f94r15 : List AI := [⟨none, (.bin 9 .lss (.t 8) (.t 7))⟩]
def f94b16 : AQ := (.seq (.region f94r15) f94b14)
def f94l17 : AQ := .loop [0, 1, 7, 8] [] f94b16
theorem uf94l17 (P ts os Q) : awl P f94l17 Q ts os = awl P (.loop [0, 1, 7, 8] [] f94b16) Q ts os := id rfl
def f94b18 : AQ := (.block 0 f94l17)
def f94r19 : List AI := [⟨none, (.mov 6 (.t 0))⟩, ⟨none, (.len 7 (.t 6))⟩, ⟨none, (.mov 8 (.v (.k (.c (.int .i64 0)))))⟩]
def f94b20 : AQ := (.seq (.region f94r19) f94b18)
def f94b21 : AQ := (.seq f94b20 f94b2)
def f94r22 : List AI := [⟨none, (.mov 4 (.v (.k (.c (.int .i64 0)))))⟩]
def f94b23 : AQ := (.seq (.region f94r22) f94b21)
def f94 : AQ := f94b23
theorem hf94 : cFunc Tryz.prog 94 = some ⟨19, f94.erase, [(RX.t 4)]⟩ := by kernel_rfl
theorem okf94 : f94.ok = true := by kernel_rfl
def f107r1 : List AI := [⟨none, (.mov 48 (.t 0))⟩, ⟨none, (.mov 49 (.t 1))⟩, ⟨none, (.bin 50 .mul (.t 48) (.t 49))⟩, ⟨none, (.mov 5 (.t 50))⟩]
def f107b2 : AQ := (.seq (.region f107r1) .ret)
def f107r3 : List AI := [⟨none, (.mov 40 (.t 7))⟩, ⟨none, (.mov 41 (.t 9))⟩, ⟨none, (.bin 42 .mul (.t 40) (.t 41))⟩, ⟨none, (.mov 43 (.t 13))⟩, ⟨none, (.bin 44 .add (.t 42) (.t 43))⟩, ⟨none, (.mov 45 (.t 12))⟩, ⟨none, (.bin 46 .shr (.t 45) (.v (.k (.c (.int .u64 32)))))⟩, ⟨none, (.bin 47 .add (.t 44) (.t 46))⟩, ⟨none, (.mov 4 (.t 47))⟩]
def f107b4 : AQ := (.seq (.region f107r3) f107b2)
def f107r5 : List AI := [⟨none, (.mov 35 (.t 12))⟩, ⟨none, (.mov 36 (.t 6))⟩, ⟨none, (.mov 37 (.t 9))⟩, ⟨none, (.bin 38 .mul (.t 36) (.t 37))⟩, ⟨none, (.bin 39 .add (.t 35) (.t 38))⟩, ⟨none, (.mov 12 (.t 39))⟩]
def f107b6 : AQ := (.seq (.region f107r5) f107b4)
def f107r7 : List AI := [⟨none, (.mov 33 (.t 11))⟩, ⟨none, (.bin 34 .shr (.t 33) (.v (.k (.c (.int .u64 32)))))⟩, ⟨none, (.mov 13 (.t 34))⟩]
def f107b8 : AQ := (.seq (.region f107r7) f107b6)
def f107r9 : List AI := [⟨none, (.mov 31 (.t 11))⟩, ⟨none, (.bin 32 .and (.t 31) (.v (.k (.c (.int .u64 4294967295)))))⟩, ⟨none, (.mov 12 (.t 32))⟩]
def f107b10 : AQ := (.seq (.region f107r9) f107b8)
def f107r11 : List AI := [⟨none, (.mov 25 (.t 7))⟩, ⟨none, (.mov 26 (.t 8))⟩, ⟨none, (.bin 27 .mul (.t 25) (.t 26))⟩, ⟨none, (.mov 28 (.t 10))⟩, ⟨none, (.bin 29 .shr (.t 28) (.v (.k (.c (.int .u64 32)))))⟩, ⟨none, (.bin 30 .add (.t 27) (.t 29))⟩, ⟨none, (.mov 11 (.t 30))⟩]
def f107b12 : AQ := (.seq (.region f107r11) f107b10)
def f107r13 : List AI := [⟨none, (.mov 22 (.t 6))⟩, ⟨none, (.mov 23 (.t 8))⟩, ⟨none, (.bin 24 .mul (.t 22) (.t 23))⟩, ⟨none, (.mov 10 (.t 24))⟩]
def f107b14 : AQ := (.seq (.region f107r13) f107b12)
def f107r15 : List AI := [⟨none, (.mov 20 (.t 1))⟩, ⟨none, (.bin 21 .shr (.t 20) (.v (.k (.c (.int .u64 32)))))⟩, ⟨none, (.mov 9 (.t 21))⟩]
def f107b16 : AQ := (.seq (.region f107r15) f107b14)
def f107r17 : List AI := [⟨none, (.mov 18 (.t 1))⟩, ⟨none, (.bin 19 .and (.t 18) (.v (.k (.c (.int .u64 4294967295)))))⟩, ⟨none, (.mov 8 (.t 19))⟩]
def f107b18 : AQ := (.seq (.region f107r17) f107b16)
def f107r19 : List AI := [⟨none, (.mov 16 (.t 0))⟩, ⟨none, (.bin 17 .shr (.t 16) (.v (.k (.c (.int .u64 32)))))⟩, ⟨none, (.mov 7 (.t 17))⟩]
def f107b20 : AQ := (.seq (.region f107r19) f107b18)
def f107r21 : List AI := [⟨none, (.mov 14 (.t 0))⟩, ⟨none, (.bin 15 .and (.t 14) (.v (.k (.c (.int .u64 4294967295)))))⟩, ⟨none, (.mov 6 (.t 15))⟩]
def f107b22 : AQ := (.seq (.region f107r21) f107b20)
def f107r23 : List AI := [⟨none, (.mov 4 (.v (.k (.c (.int .u64 0)))))⟩, ⟨none, (.mov 5 (.v (.k (.c (.int .u64 0)))))⟩]
def f107b24 : AQ := (.seq (.region f107r23) f107b22)
def f107 : AQ := f107b24
theorem hf107 : cFunc Tryz.prog 107 = some ⟨51, f107.erase, [(RX.t 4), (RX.t 5)]⟩ := by kernel_rfl
theorem okf107 : f107.ok = true := by kernel_rfl
def f108r1 : List AI := [⟨none, (.mov 5 (.t 0))⟩, ⟨none, (.lenS 6 (.t 5))⟩, ⟨none, (.mov 7 (.t 1))⟩, ⟨none, (.lenS 8 (.t 7))⟩, ⟨none, (.bin 9 .geq (.t 6) (.t 8))⟩, ⟨none, (.mov 10 (.t 9))⟩, ⟨(some (10, true)), (.mov 11 (.t 0))⟩, ⟨(some (10, true)), (.mov 12 (.t 1))⟩, ⟨(some (10, true)), (.lenS 13 (.t 12))⟩, ⟨(some (10, true)), (.slstr 14 (.t 11) none (some (.t 13)))⟩, ⟨(some (10, true)), (.mov 15 (.t 1))⟩, ⟨(some (10, true)), (.bin 16 .eql (.t 14) (.t 15))⟩, ⟨none, (.pick 17 (.t 10) (.t 16) (.v (.k (.c (.bool false)))))⟩, ⟨none, (.mov 4 (.t 17))⟩]
def f108b2 : AQ := (.seq (.region f108r1) .ret)
def f108r3 : List AI := [⟨none, (.mov 4 (.v (.k (.c (.bool false)))))⟩]
def f108b4 : AQ := (.seq (.region f108r3) f108b2)
def f108 : AQ := f108b4
theorem hf108 : cFunc Tryz.prog 108 = some ⟨18, f108.erase, [(RX.t 4)]⟩ := by kernel_rfl
theorem okf108 : f108.ok = true := by kernel_rfl
def f6r1 : List AI := [⟨none, (.mov 119 (.t 7))⟩, ⟨none, (.mov 120 (.t 119))⟩, ⟨(some (120, true)), (.mov 121 (.t 12))⟩, ⟨(some (120, true)), (.call (some 122) 21 [(.t 121)])⟩, ⟨(some (120, true)), (.mov 123 (.t 11))⟩, ⟨(some (120, true)), (.call (some 124) 20 [(.t 122), (.t 123)])⟩, ⟨none, (.pick 125 (.t 120) (.t 124) (.v (.k (.c (.bool false)))))⟩, ⟨none, (.mov 126 (.t 125))⟩, ⟨(some (126, true)), (.mov 127 (.t 12))⟩, ⟨(some (126, true)), (.call (some 128) 23 [(.t 127), (.v (.k (.c (.int .i64 0))))])⟩, ⟨(some (126, true)), (.len 129 (.t 128))⟩, ⟨(some (126, true)), (.bin 130 .eql (.t 129) (.v (.k (.c (.int .i64 0)))))⟩, ⟨none, (.pick 131 (.t 126) (.t 130) (.v (.k (.c (.bool false)))))⟩, ⟨none, (.mov 132 (.t 131))⟩, ⟨(some (132, true)), (.mov 133 (.t 12))⟩, ⟨(some (132, true)), (.call (some 134) 23 [(.t 133), (.v (.k (.c (.int .i64 1))))])⟩, ⟨(some (132, true)), (.len 135 (.t 134))⟩, ⟨(some (132, true)), (.bin 136 .eql (.t 135) (.v (.k (.c (.int .i64 0)))))⟩, ⟨none, (.pick 137 (.t 132) (.t 136) (.v (.k (.c (.bool false)))))⟩, ⟨none, (.mov 138 (.t 137))⟩, ⟨(some (138, true)), (.mov 139 (.t 12))⟩, ⟨(some (138, true)), (.call (some 140) 23 [(.t 139), (.v (.k (.c (.int .i64 2))))])⟩, ⟨(some (138, true)), (.len 141 (.t 140))⟩, ⟨(some (138, true)), (.bin 142 .eql (.t 141) (.v (.k (.c (.int .i64 0)))))⟩, ⟨none, (.pick 143 (.t 138) (.t 142) (.v (.k (.c (.bool false)))))⟩, ⟨none, (.mov 6 (.t 143))⟩]
def f6b2 : AQ := (.seq (.region f6r1) .ret)
def f6r3 : List AI := [⟨none, (.mov 60 (.t 13))⟩, ⟨none, (.bin 61 .add (.t 60) (.v (.k (.c (.int .i64 1)))))⟩, ⟨none, (.mov 13 (.t 61))⟩]
def f6r4 : List AI := [⟨none, (.mov 115 (.t 12))⟩, ⟨none, (.mov 116 (.t 18))⟩, ⟨none, (.bslice 117 22 1 [(.list 0 (some true) [])] 1 [(0, (.t 116))])⟩, ⟨none, (.append 118 22 1 24 (.t 115) (.t 117))⟩, ⟨none, (.mov 12 (.t 118))⟩]
def f6r5 : List AI := [⟨none, (.mov 106 (.t 20))⟩, ⟨none, (.bin 107 .add (.t 106) (.v (.k (.c (.int .i64 1)))))⟩, ⟨none, (.mov 20 (.t 107))⟩]
def f6r6 : List AI := [⟨none, (.mov 6 (.v (.k (.c (.bool false)))))⟩]
def f6b7 : AQ := (.seq (.region f6r6) .ret)
def f6b8 : AQ := (.cond (.t 114) f6b7 .skip)
def f6r9 : List AI := [⟨none, (.mov 108 (.t 18))⟩, ⟨none, (.mov 109 (.t 11))⟩, ⟨none, (.mov 110 (.t 20))⟩, ⟨none, (.iaddr 111 1 (.t 109) (.t 110))⟩, ⟨none, (.load 112 1 false (.t 111))⟩, ⟨none, (.call (some 113) 27 [(.t 108), (.t 112)])⟩, ⟨none, (.un 114 .not (.t 113))⟩]
def f6b10 : AQ := (.seq (.region f6r9) f6b8)
def f6b11 : AQ := (.block 7 f6b10)
def f6b12 : AQ := (.seq f6b11 (.region f6r5))
def f6b13 : AQ := (.cond (.t 105) .skip (.exit 6))
def f6r14 : List AI := [⟨none, (.mov 102 (.t 20))⟩, ⟨none, (.mov 103 (.t 11))⟩, ⟨none, (.len 104 (.t 103))⟩, ⟨none, (.bin 105 .lss (.t 102) (.t 104))⟩]
def f6b15 : AQ := (.seq (.region f6r14) f6b13)
def f6b16 : AQ := (.seq f6b15 f6b12)
def f6l17 : AQ := .loop [7, 8, 11, 12, 13, 18, 20] [12, 25, 57, 67, 74, 75, 81, 118, 58000, 58001, 58002, 68000, 68001, 68002, 75000, 75001, 75002, 76000, 76001, 76002, 82000, 82001, 82002] f6b16
theorem uf6l17 (P ts os Q) : awl P f6l17 Q ts os = awl P (.loop [7, 8, 11, 12, 13, 18, 20] [12, 25, 57, 67, 74, 75, 81, 118, 58000, 58001, 58002, 68000, 68001, 68002, 75000, 75001, 75002, 76000, 76001, 76002, 82000, 82001, 82002] f6b16) Q ts os := id rfl
def f6b18 : AQ := (.block 6 f6l17)
def f6r19 : List AI := [⟨none, (.mov 20 (.v (.k (.c (.int .i64 0)))))⟩]
def f6b20 : AQ := (.seq (.region f6r19) f6b18)
def f6b21 : AQ := (.seq f6b20 (.region f6r4))
def f6r22 : List AI := [⟨none, (.mov 6 (.v (.k (.c (.bool false)))))⟩]
def f6b23 : AQ := (.seq (.region f6r22) .ret)
def f6b24 : AQ := (.cond (.t 101) f6b23 .skip)
def f6r25 : List AI := [⟨none, (.mov 84 (.t 15))⟩, ⟨none, (.un 85 .not (.t 84))⟩, ⟨none, (.mov 86 (.t 85))⟩, ⟨(some (86, false)), (.mov 87 (.t 17))⟩, ⟨(some (86, false)), (.bin 88 .neq (.t 87) (.v (.k (.c (.int .i64 0)))))⟩, ⟨none, (.pick 89 (.t 86) (.v (.k (.c (.bool true)))) (.t 88))⟩, ⟨none, (.mov 90 (.t 89))⟩, ⟨(some (90, false)), (.mov 91 (.t 19))⟩, ⟨(some (90, false)), (.bin 92 .neq (.t 91) (.v (.k (.c (.int .i64 0)))))⟩, ⟨none, (.pick 93 (.t 90) (.v (.k (.c (.bool true)))) (.t 92))⟩, ⟨none, (.mov 94 (.t 93))⟩, ⟨(some (94, false)), (.mov 95 (.t 16))⟩, ⟨(some (94, false)), (.mov 96 (.t 8))⟩, ⟨(some (94, false)), (.mov 97 (.t 13))⟩, ⟨(some (94, false)), (.call (some 98) 23 [(.t 96), (.t 97)])⟩, ⟨(some (94, false)), (.len 99 (.t 98))⟩, ⟨(some (94, false)), (.bin 100 .neq (.t 95) (.t 99))⟩, ⟨none, (.pick 101 (.t 94) (.v (.k (.c (.bool true)))) (.t 100))⟩]
def f6b26 : AQ := (.seq (.region f6r25) f6b24)
def f6b27 : AQ := (.seq f6b26 f6b21)
def f6r28 : List AI := [⟨none, (.load 80 4 true (.t 14))⟩, ⟨none, (.call (some 81) 18 [(.t 80)])⟩, ⟨none, (.mov 79 (.t 81))⟩, ⟨none, (.extr 82 (.t 79) 0)⟩, ⟨none, (.extr 83 (.t 79) 1)⟩, ⟨none, (.mov 18 (.t 82))⟩, ⟨none, (.mov 19 (.t 83))⟩]
def f6b29 : AQ := (.seq (.region f6r28) f6b27)
def f6r30o0 : AI := ⟨none, (.load 71 4 true (.t 14))⟩
def f6r30o1 : AI := ⟨none, (.mov 72 (.t 8))⟩
def f6r30o2 : AI := ⟨none, (.mov 73 (.t 13))⟩
def f6r30o3 : AI := ⟨none, (.call (some 74) 23 [(.t 72), (.t 73)])⟩
def f6r30o4 : AI := ⟨none, (.call (some 75) 25 [(.t 71), (.t 74)])⟩
def f6r30o5 : AI := ⟨none, (.mov 70 (.t 75))⟩
def f6r30o6 : AI := ⟨none, (.extr 76 (.t 70) 0)⟩
def f6r30o7 : AI := ⟨none, (.extr 77 (.t 70) 1)⟩
def f6r30o8 : AI := ⟨none, (.extr 78 (.t 70) 2)⟩
def f6r30o9 : AI := ⟨none, (.store 4 (.t 14) (.t 76))⟩
def f6r30o10 : AI := ⟨none, (.mov 16 (.t 77))⟩
def f6r30o11 : AI := ⟨none, (.mov 17 (.t 78))⟩
def f6r30 : List AI := [f6r30o0, f6r30o1, f6r30o2, f6r30o3, f6r30o4, f6r30o5, f6r30o6, f6r30o7, f6r30o8, f6r30o9, f6r30o10, f6r30o11]
theorem utf6r30 : treeOf f6r30 [[], [], [], [1, 2], [0, 3, 3], [4], [5], [5], [5], [6, 4, 0, 1, 2, 3, 4, 5, 6], [7, 9, 0, 1, 2, 3, 4, 5, 6, 7, 9], [8, 10, 0, 1, 2, 3, 4, 5, 6, 7, 8, 9, 10]] = (.one f6r30o0 (.one f6r30o1 (.one f6r30o2 (.one f6r30o3 (.one f6r30o4 (.one f6r30o5 (.one f6r30o6 (.alt (.one f6r30o7 (.alt (.one f6r30o8 (.one f6r30o9 (.one f6r30o10 (.one f6r30o11 .done)))) (.alt (.one f6r30o9 (.one f6r30o8 (.one f6r30o10 (.one f6r30o11 .done)))) .top))) (.alt (.one f6r30o8 (.alt (.one f6r30o7 (.one f6r30o9 (.one f6r30o10 (.one f6r30o11 .done)))) (.alt (.one f6r30o9 (.one f6r30o7 (.one f6r30o10 (.one f6r30o11 .done)))) .top))) (.alt (.one f6r30o9 (.one f6r30o7 (.one f6r30o8 (.one f6r30o10 (.one f6r30o11 .done))))) .top)))))))))) := by kernel_rfl
def f6b31 : AQ := (.seq (.tree f6r30 [[], [], [], [1, 2], [0, 3, 3], [4], [5], [5], [5], [6, 4, 0, 1, 2, 3, 4, 5, 6], [7, 9, 0, 1, 2, 3, 4, 5, 6, 7, 9], [8, 10, 0, 1, 2, 3, 4, 5, 6, 7, 8, 9, 10]]) (.keep [7, 8, 11, 12, 13, 14, 15, 16, 17] [12, 14, 25, 57, 67, 74, 75, 118, 58000, 58001, 58002, 68000, 68001, 68002, 75000, 75001, 75002, 76000, 76001, 76002] f6b29))
def f6r32 : List AI := [⟨none, (.mov 63 (.t 8))⟩, ⟨none, (.mov 64 (.t 13))⟩, ⟨none, (.iaddr 65 1 (.t 63) (.t 64))⟩, ⟨none, (.load 66 1 false (.t 65))⟩, ⟨none, (.call (some 67) 30 [(.t 66)])⟩, ⟨none, (.mov 62 (.t 67))⟩, ⟨none, (.extr 68 (.t 62) 0)⟩, ⟨none, (.extr 69 (.t 62) 1)⟩, ⟨none, (.alloc 14 25 [(.list 0 (some true) []), (.list 0 (some true) []), (.int .i64 0), (.bool false)])⟩, ⟨none, (.store 4 (.t 14) (.t 68))⟩, ⟨none, (.mov 15 (.t 69))⟩]
def f6b33 : AQ := (.seq (.region f6r32) f6b31)
def f6b34 : AQ := (.block 5 f6b33)
def f6b35 : AQ := (.seq f6b34 (.region f6r3))
def f6b36 : AQ := (.cond (.t 59) .skip (.exit 4))
def f6r37 : List AI := [⟨none, (.mov 58 (.t 13))⟩, ⟨none, (.bin 59 .lss (.t 58) (.v (.k (.c (.int .i64 3)))))⟩]
def f6b38 : AQ := (.seq (.region f6r37) f6b36)
def f6b39 : AQ := (.seq f6b38 f6b35)
def f6l40 : AQ := .loop [7, 8, 11, 12, 13] [12, 25, 57, 118, 58000, 58001, 58002] f6b39
theorem uf6l40 (P ts os Q) : awl P f6l40 Q ts os = awl P (.loop [7, 8, 11, 12, 13] [12, 25, 57, 118, 58000, 58001, 58002] f6b39) Q ts os := id rfl
def f6b41 : AQ := (.block 4 f6l40)
def f6r42 : List AI := [⟨none, (.mov 13 (.v (.k (.c (.int .i64 0)))))⟩]
def f6b43 : AQ := (.seq (.region f6r42) f6b41)
def f6b44 : AQ := (.seq f6b43 f6b2)
def f6r45 : List AI := [⟨none, (.nilL 12 22 1)⟩]
def f6b46 : AQ := (.seq (.region f6r45) f6b44)
def f6r47 : List AI := [⟨none, (.mov 56 (.t 8))⟩, ⟨none, (.call (some 57) 21 [(.t 56)])⟩, ⟨none, (.mov 11 (.t 57))⟩]
def f6b48 : AQ := (.seq (.region f6r47) f6b46)
def f6r49 : List AI := [⟨none, (.mov 28 (.t 9))⟩, ⟨none, (.bin 29 .add (.t 28) (.v (.k (.c (.int .i64 1)))))⟩, ⟨none, (.mov 9 (.t 29))⟩]
def f6r50 : List AI := [⟨none, (.mov 44 (.t 10))⟩, ⟨none, (.bin 45 .add (.t 44) (.v (.k (.c (.int .i64 1)))))⟩, ⟨none, (.mov 10 (.t 45))⟩]
def f6r51 : List AI := [⟨none, (.mov 55 (.t 7))⟩, ⟨none, (.mov 6 (.t 55))⟩]
def f6b52 : AQ := (.seq (.region f6r51) .ret)
def f6b53 : AQ := (.cond (.t 54) f6b52 .skip)
def f6r54 : List AI := [⟨none, (.mov 46 (.t 8))⟩, ⟨none, (.mov 47 (.t 9))⟩, ⟨none, (.iaddr 48 1 (.t 46) (.t 47))⟩, ⟨none, (.load 49 1 false (.t 48))⟩, ⟨none, (.mov 50 (.t 10))⟩, ⟨none, (.iaddr 51 1 (.t 49) (.t 50))⟩, ⟨none, (.load 52 1 false (.t 51))⟩, ⟨none, (.lenS 53 (.t 52))⟩, ⟨none, (.bin 54 .gtr (.t 53) (.v (.k (.c (.int .i64 40)))))⟩]
def f6b55 : AQ := (.seq (.region f6r54) f6b53)
def f6b56 : AQ := (.block 3 f6b55)
def f6b57 : AQ := (.seq f6b56 (.region f6r50))
def f6b58 : AQ := (.cond (.t 43) .skip (.exit 2))
def f6r59 : List AI := [⟨none, (.mov 37 (.t 10))⟩, ⟨none, (.mov 38 (.t 8))⟩, ⟨none, (.mov 39 (.t 9))⟩, ⟨none, (.iaddr 40 1 (.t 38) (.t 39))⟩, ⟨none, (.load 41 1 false (.t 40))⟩, ⟨none, (.len 42 (.t 41))⟩, ⟨none, (.bin 43 .lss (.t 37) (.t 42))⟩]
def f6b60 : AQ := (.seq (.region f6r59) f6b58)
def f6b61 : AQ := (.seq f6b60 f6b57)
def f6l62 : AQ := .loop [7, 8, 9, 10] [25] f6b61
theorem uf6l62 (P ts os Q) : awl P f6l62 Q ts os = awl P (.loop [7, 8, 9, 10] [25] f6b61) Q ts os := id rfl
def f6b63 : AQ := (.block 2 f6l62)
def f6r64 : List AI := [⟨none, (.mov 10 (.v (.k (.c (.int .i64 0)))))⟩]
def f6b65 : AQ := (.seq (.region f6r64) f6b63)
def f6r66 : List AI := [⟨none, (.mov 36 (.t 7))⟩, ⟨none, (.mov 6 (.t 36))⟩]
def f6b67 : AQ := (.seq (.region f6r66) .ret)
def f6b68 : AQ := (.cond (.t 35) f6b67 .skip)
def f6r69 : List AI := [⟨none, (.mov 30 (.t 8))⟩, ⟨none, (.mov 31 (.t 9))⟩, ⟨none, (.iaddr 32 1 (.t 30) (.t 31))⟩, ⟨none, (.load 33 1 false (.t 32))⟩, ⟨none, (.len 34 (.t 33))⟩, ⟨none, (.bin 35 .gtr (.t 34) (.v (.k (.c (.int .i64 8)))))⟩]
def f6b70 : AQ := (.seq (.region f6r69) f6b68)
def f6b71 : AQ := (.seq f6b70 f6b65)
def f6b72 : AQ := (.block 1 f6b71)
def f6b73 : AQ := (.seq f6b72 (.region f6r49))
def f6b74 : AQ := (.cond (.t 27) .skip (.exit 0))
def f6r75 : List AI := [⟨none, (.mov 26 (.t 9))⟩, ⟨none, (.bin 27 .lss (.t 26) (.v (.k (.c (.int .i64 3)))))⟩]
def f6b76 : AQ := (.seq (.region f6r75) f6b74)
def f6b77 : AQ := (.seq f6b76 f6b73)
def f6l78 : AQ := .loop [7, 8, 9] [25] f6b77
theorem uf6l78 (P ts os Q) : awl P f6l78 Q ts os = awl P (.loop [7, 8, 9] [25] f6b77) Q ts os := id rfl
def f6b79 : AQ := (.block 0 f6l78)
def f6r80 : List AI := [⟨none, (.mov 9 (.v (.k (.c (.int .i64 0)))))⟩]
def f6b81 : AQ := (.seq (.region f6r80) f6b79)
def f6b82 : AQ := (.seq f6b81 f6b48)
def f6r83 : List AI := [⟨none, (.mov 22 (.t 0))⟩, ⟨none, (.mov 23 (.t 1))⟩, ⟨none, (.mov 24 (.t 2))⟩, ⟨none, (.bslice 25 22 1 [(.list 0 (some true) [])] 3 [(0, (.t 22)), (1, (.t 23)), (2, (.t 24))])⟩, ⟨none, (.mov 8 (.t 25))⟩]
def f6b84 : AQ := (.seq (.region f6r83) f6b82)
def f6r85 : List AI := [⟨none, (.call (some 21) 8 [])⟩, ⟨none, (.mov 7 (.t 21))⟩]
def f6b86 : AQ := (.seq (.region f6r85) f6b84)
def f6r87 : List AI := [⟨none, (.mov 6 (.v (.k (.c (.bool false)))))⟩]
def f6b88 : AQ := (.seq (.region f6r87) f6b86)
def f6 : AQ := f6b88
theorem hf6 : cFunc Tryz.prog 6 = some ⟨144, f6.erase, [(RX.t 6)]⟩ := by kernel_rfl
theorem okf6 : f6.ok = true := by kernel_rfl
def f8r1 : List AI := [⟨none, (.mov 129 (.t 20))⟩, ⟨none, (.call (some 130) 21 [(.t 129)])⟩, ⟨none, (.bslice 131 9 1 [(.str [])] 3 [(0, (.v (.k (.c (.str [97]))))), (1, (.v (.k (.c (.str [98]))))), (2, (.v (.k (.c (.str [99])))))])⟩, ⟨none, (.call (some 132) 20 [(.t 130), (.t 131)])⟩, ⟨none, (.mov 133 (.t 132))⟩, ⟨(some (133, true)), (.mov 134 (.t 20))⟩, ⟨(some (133, true)), (.call (some 135) 23 [(.t 134), (.v (.k (.c (.int .i64 1))))])⟩, ⟨(some (133, true)), (.bslice 136 9 1 [(.str [])] 2 [(0, (.v (.k (.c (.str [97]))))), (1, (.v (.k (.c (.str [99])))))])⟩, ⟨(some (133, true)), (.call (some 137) 20 [(.t 135), (.t 136)])⟩, ⟨none, (.pick 138 (.t 133) (.t 137) (.v (.k (.c (.bool false)))))⟩, ⟨none, (.mov 0 (.t 138))⟩]
def f8b2 : AQ := (.seq (.region f8r1) .ret)
def f8r3 : List AI := [⟨none, (.bslice 125 9 1 [(.str [])] 3 [(0, (.v (.k (.c (.str [97]))))), (1, (.v (.k (.c (.str [98]))))), (2, (.v (.k (.c (.str [99])))))])⟩, ⟨none, (.bslice 126 9 1 [(.str [])] 2 [(0, (.v (.k (.c (.str [98]))))), (1, (.v (.k (.c (.str [100])))))])⟩, ⟨none, (.bslice 127 9 1 [(.str [])] 3 [(0, (.v (.k (.c (.str [99]))))), (1, (.v (.k (.c (.str [98]))))), (2, (.v (.k (.c (.str [97])))))])⟩]
def f8r4 : List AI := [⟨none, (.bslice 128 22 1 [(.list 0 (some true) [])] 3 [(0, (.t 125)), (1, (.t 126)), (2, (.t 127))])⟩, ⟨none, (.mov 20 (.t 128))⟩]
def f8b5 : AQ := (.seq (.regf f8r3 [125, 126, 127] f8r4) (.frz 128 f8b2))
def f8r6 : List AI := [⟨none, (.mov 0 (.v (.k (.c (.bool false)))))⟩]
def f8b7 : AQ := (.seq (.region f8r6) .ret)
def f8b8 : AQ := (.cond (.t 124) f8b7 .skip)
def f8r9 : List AI := [⟨none, (.mov 105 (.t 13))⟩, ⟨none, (.bin 106 .neq (.t 105) (.v (.k (.c (.int .i64 0)))))⟩, ⟨none, (.mov 107 (.t 106))⟩, ⟨(some (107, false)), (.mov 108 (.t 15))⟩, ⟨(some (107, false)), (.bin 109 .neq (.t 108) (.v (.k (.c (.int .i64 8)))))⟩, ⟨none, (.pick 110 (.t 107) (.v (.k (.c (.bool true)))) (.t 109))⟩, ⟨none, (.mov 111 (.t 110))⟩, ⟨(some (111, false)), (.mov 112 (.t 17))⟩, ⟨(some (111, false)), (.bin 113 .neq (.t 112) (.v (.k (.c (.int .i64 0)))))⟩, ⟨none, (.pick 114 (.t 111) (.v (.k (.c (.bool true)))) (.t 113))⟩, ⟨none, (.mov 115 (.t 114))⟩, ⟨(some (115, false)), (.mov 116 (.t 19))⟩, ⟨(some (115, false)), (.bin 117 .neq (.t 116) (.v (.k (.c (.int .i64 0)))))⟩, ⟨none, (.pick 118 (.t 115) (.v (.k (.c (.bool true)))) (.t 117))⟩, ⟨none, (.mov 119 (.t 118))⟩, ⟨(some (119, false)), (.mov 120 (.t 18))⟩, ⟨(some (119, false)), (.bslice 121 9 1 [(.str [])] 1 [(0, (.v (.k (.c (.str [97])))))])⟩, ⟨(some (119, false)), (.call (some 122) 20 [(.t 120), (.t 121)])⟩, ⟨(some (119, false)), (.un 123 .not (.t 122))⟩, ⟨none, (.pick 124 (.t 119) (.v (.k (.c (.bool true)))) (.t 123))⟩]
def f8b10 : AQ := (.seq (.region f8r9) f8b8)
def f8b11 : AQ := (.seq f8b10 f8b5)
def f8r12 : List AI := [⟨none, (.load 101 4 true (.t 16))⟩, ⟨none, (.call (some 102) 18 [(.t 101)])⟩, ⟨none, (.mov 100 (.t 102))⟩, ⟨none, (.extr 103 (.t 100) 0)⟩, ⟨none, (.extr 104 (.t 100) 1)⟩, ⟨none, (.mov 18 (.t 103))⟩, ⟨none, (.mov 19 (.t 104))⟩]
def f8b13 : AQ := (.seq (.region f8r12) f8b11)
def f8r14 : List AI := [⟨none, (.load 96 4 true (.t 14))⟩, ⟨none, (.call (some 97) 16 [(.t 96)])⟩, ⟨none, (.mov 95 (.t 97))⟩, ⟨none, (.extr 98 (.t 95) 0)⟩, ⟨none, (.extr 99 (.t 95) 1)⟩, ⟨none, (.alloc 16 25 [(.list 0 (some true) []), (.list 0 (some true) []), (.int .i64 0), (.bool false)])⟩, ⟨none, (.store 4 (.t 16) (.t 98))⟩, ⟨none, (.mov 17 (.t 99))⟩]
def f8b15 : AQ := (.seq (.region f8r14) f8b13)
def f8r16 : List AI := [⟨none, (.load 91 4 true (.t 12))⟩, ⟨none, (.call (some 92) 14 [(.t 91), (.v (.k (.c (.str [98]))))])⟩, ⟨none, (.mov 90 (.t 92))⟩, ⟨none, (.extr 93 (.t 90) 0)⟩, ⟨none, (.extr 94 (.t 90) 1)⟩, ⟨none, (.alloc 14 25 [(.list 0 (some true) []), (.list 0 (some true) []), (.int .i64 0), (.bool false)])⟩, ⟨none, (.store 4 (.t 14) (.t 93))⟩, ⟨none, (.mov 15 (.t 94))⟩]
def f8b17 : AQ := (.seq (.region f8r16) f8b15)
def f8r18 : List AI := [⟨none, (.load 86 4 true (.t 4))⟩, ⟨none, (.call (some 87) 28 [(.t 86), (.v (.k (.c (.int .i64 1))))])⟩, ⟨none, (.mov 85 (.t 87))⟩, ⟨none, (.extr 88 (.t 85) 0)⟩, ⟨none, (.extr 89 (.t 85) 1)⟩, ⟨none, (.alloc 12 25 [(.list 0 (some true) []), (.list 0 (some true) []), (.int .i64 0), (.bool false)])⟩, ⟨none, (.store 4 (.t 12) (.t 88))⟩, ⟨none, (.mov 13 (.t 89))⟩]
def f8b19 : AQ := (.seq (.region f8r18) f8b17)
def f8r20 : List AI := [⟨none, (.mov 0 (.v (.k (.c (.bool false)))))⟩]
def f8b21 : AQ := (.seq (.region f8r20) .ret)
def f8b22 : AQ := (.cond (.t 84) f8b21 .skip)
def f8r23 : List AI := [⟨none, (.mov 53 (.t 2))⟩, ⟨none, (.bin 54 .neq (.t 53) (.v (.k (.c (.int .i64 0)))))⟩, ⟨none, (.mov 55 (.t 54))⟩, ⟨(some (55, false)), (.mov 56 (.t 3))⟩, ⟨(some (55, false)), (.bin 57 .neq (.t 56) (.v (.k (.c (.int .i64 0)))))⟩, ⟨none, (.pick 58 (.t 55) (.v (.k (.c (.bool true)))) (.t 57))⟩, ⟨none, (.mov 59 (.t 58))⟩, ⟨(some (59, false)), (.mov 60 (.t 5))⟩, ⟨(some (59, false)), (.bin 61 .neq (.t 60) (.v (.k (.c (.int .i64 0)))))⟩, ⟨none, (.pick 62 (.t 59) (.v (.k (.c (.bool true)))) (.t 61))⟩, ⟨none, (.mov 63 (.t 62))⟩, ⟨(some (63, false)), (.mov 64 (.t 7))⟩, ⟨(some (63, false)), (.bin 65 .neq (.t 64) (.v (.k (.c (.int .i64 5)))))⟩, ⟨none, (.pick 66 (.t 63) (.v (.k (.c (.bool true)))) (.t 65))⟩, ⟨none, (.mov 67 (.t 66))⟩, ⟨(some (67, false)), (.mov 68 (.t 9))⟩, ⟨(some (67, false)), (.bin 69 .neq (.t 68) (.v (.k (.c (.int .i64 0)))))⟩, ⟨none, (.pick 70 (.t 67) (.v (.k (.c (.bool true)))) (.t 69))⟩, ⟨none, (.mov 71 (.t 70))⟩, ⟨(some (71, false)), (.mov 72 (.t 11))⟩, ⟨(some (71, false)), (.bin 73 .neq (.t 72) (.v (.k (.c (.int .i64 0)))))⟩, ⟨none, (.pick 74 (.t 71) (.v (.k (.c (.bool true)))) (.t 73))⟩, ⟨none, (.mov 75 (.t 74))⟩, ⟨(some (75, false)), (.mov 76 (.t 8))⟩, ⟨(some (75, false)), (.bin 77 .neq (.t 76) (.v (.k (.c (.int .i64 2)))))⟩, ⟨none, (.pick 78 (.t 75) (.v (.k (.c (.bool true)))) (.t 77))⟩, ⟨none, (.mov 79 (.t 78))⟩, ⟨(some (79, false)), (.mov 80 (.t 10))⟩, ⟨(some (79, false)), (.bslice 81 9 1 [(.str [])] 4 [(0, (.v (.k (.c (.str [97]))))), (1, (.v (.k (.c (.str [98]))))), (2, (.v (.k (.c (.str [99]))))), (3, (.v (.k (.c (.str [100])))))])⟩, ⟨(some (79, false)), (.call (some 82) 20 [(.t 80), (.t 81)])⟩, ⟨(some (79, false)), (.un 83 .not (.t 82))⟩, ⟨none, (.pick 84 (.t 79) (.v (.k (.c (.bool true)))) (.t 83))⟩]
def f8b24 : AQ := (.seq (.region f8r23) f8b22)
def f8b25 : AQ := (.seq f8b24 f8b19)
def f8r26 : List AI := [⟨none, (.load 49 4 true (.t 1))⟩, ⟨none, (.call (some 50) 18 [(.t 49)])⟩, ⟨none, (.mov 48 (.t 50))⟩, ⟨none, (.extr 51 (.t 48) 0)⟩, ⟨none, (.extr 52 (.t 48) 1)⟩, ⟨none, (.mov 10 (.t 51))⟩, ⟨none, (.mov 11 (.t 52))⟩]
def f8b27 : AQ := (.seq (.region f8r26) f8b25)
def f8r28 : List AI := [⟨none, (.load 42 4 true (.t 1))⟩, ⟨none, (.bslice 43 9 1 [(.str [])] 3 [(0, (.v (.k (.c (.str [98]))))), (1, (.v (.k (.c (.str [99]))))), (2, (.v (.k (.c (.str [100])))))])⟩, ⟨none, (.call (some 44) 25 [(.t 42), (.t 43)])⟩, ⟨none, (.mov 41 (.t 44))⟩, ⟨none, (.extr 45 (.t 41) 0)⟩, ⟨none, (.extr 46 (.t 41) 1)⟩, ⟨none, (.extr 47 (.t 41) 2)⟩, ⟨none, (.store 4 (.t 1) (.t 45))⟩, ⟨none, (.mov 8 (.t 46))⟩, ⟨none, (.mov 9 (.t 47))⟩]
def f8b29 : AQ := (.seq (.region f8r28) f8b27)
def f8r30 : List AI := [⟨none, (.load 37 4 true (.t 1))⟩, ⟨none, (.call (some 38) 14 [(.t 37), (.v (.k (.c (.str [97]))))])⟩, ⟨none, (.mov 36 (.t 38))⟩, ⟨none, (.extr 39 (.t 36) 0)⟩, ⟨none, (.extr 40 (.t 36) 1)⟩, ⟨none, (.alloc 6 25 [(.list 0 (some true) []), (.list 0 (some true) []), (.int .i64 0), (.bool false)])⟩, ⟨none, (.store 4 (.t 6) (.t 39))⟩, ⟨none, (.mov 7 (.t 40))⟩]
def f8b31 : AQ := (.seq (.region f8r30) f8b29)
def f8r32 : List AI := [⟨none, (.load 32 4 true (.t 1))⟩, ⟨none, (.call (some 33) 14 [(.t 32), (.v (.k (.c (.str [98]))))])⟩, ⟨none, (.mov 31 (.t 33))⟩, ⟨none, (.extr 34 (.t 31) 0)⟩, ⟨none, (.extr 35 (.t 31) 1)⟩, ⟨none, (.store 4 (.t 1) (.t 34))⟩, ⟨none, (.mov 5 (.t 35))⟩]
def f8b33 : AQ := (.seq (.region f8r32) f8b31)
def f8r34 : List AI := [⟨none, (.load 30 4 true (.t 1))⟩, ⟨none, (.alloc 4 25 [(.list 0 (some true) []), (.list 0 (some true) []), (.int .i64 0), (.bool false)])⟩, ⟨none, (.store 4 (.t 4) (.t 30))⟩]
def f8b35 : AQ := (.seq (.region f8r34) f8b33)
def f8r36 : List AI := [⟨none, (.load 26 4 true (.t 1))⟩, ⟨none, (.call (some 27) 14 [(.t 26), (.v (.k (.c (.str [97]))))])⟩, ⟨none, (.mov 25 (.t 27))⟩, ⟨none, (.extr 28 (.t 25) 0)⟩, ⟨none, (.extr 29 (.t 25) 1)⟩, ⟨none, (.store 4 (.t 1) (.t 28))⟩, ⟨none, (.mov 3 (.t 29))⟩]
def f8b37 : AQ := (.seq (.region f8r36) f8b35)
def f8r38 : List AI := [⟨none, (.call (some 22) 11 [(.v (.k (.c (.int .i64 5))))])⟩, ⟨none, (.mov 21 (.t 22))⟩, ⟨none, (.extr 23 (.t 21) 0)⟩, ⟨none, (.extr 24 (.t 21) 1)⟩, ⟨none, (.alloc 1 25 [(.list 0 (some true) []), (.list 0 (some true) []), (.int .i64 0), (.bool false)])⟩, ⟨none, (.store 4 (.t 1) (.t 23))⟩, ⟨none, (.mov 2 (.t 24))⟩]
def f8b39 : AQ := (.seq (.region f8r38) f8b37)
def f8r40 : List AI := [⟨none, (.mov 0 (.v (.k (.c (.bool false)))))⟩]
def f8b41 : AQ := (.seq (.region f8r40) f8b39)
def f8 : AQ := f8b41
theorem hf8 : cFunc Tryz.prog 8 = some ⟨139, f8.erase, [(RX.t 0)]⟩ := by kernel_rfl
theorem okf8 : f8.ok = true := by kernel_rfl
def f30r1 : List AI := [⟨none, (.load 20 4 true (.t 4))⟩, ⟨none, (.mov 21 (.t 5))⟩, ⟨none, (.bin 22 .eql (.t 21) (.v (.k (.c (.int .i64 0)))))⟩, ⟨none, (.store 4 (.t 2) (.t 20))⟩, ⟨none, (.mov 3 (.t 22))⟩]
def f30b2 : AQ := (.seq (.region f30r1) .ret)
def f30r3 : List AI := [⟨none, (.load 14 4 true (.t 4))⟩, ⟨none, (.mov 15 (.t 0))⟩, ⟨none, (.call (some 16) 25 [(.t 14), (.t 15)])⟩, ⟨none, (.mov 13 (.t 16))⟩, ⟨none, (.extr 17 (.t 13) 0)⟩, ⟨none, (.extr 18 (.t 13) 1)⟩, ⟨none, (.extr 19 (.t 13) 2)⟩, ⟨none, (.store 4 (.t 4) (.t 17))⟩, ⟨none, (.mov 5 (.t 19))⟩]
def f30b4 : AQ := (.seq (.region f30r3) f30b2)
def f30r5 : List AI := [⟨none, (.load 12 4 true (.t 4))⟩, ⟨none, (.store 4 (.t 2) (.t 12))⟩, ⟨none, (.mov 3 (.v (.k (.c (.bool false)))))⟩]
def f30b6 : AQ := (.seq (.region f30r5) .ret)
def f30b7 : AQ := (.cond (.t 11) f30b6 .skip)
def f30r8 : List AI := [⟨none, (.mov 10 (.t 5))⟩, ⟨none, (.bin 11 .neq (.t 10) (.v (.k (.c (.int .i64 0)))))⟩]
def f30b9 : AQ := (.seq (.region f30r8) f30b7)
def f30b10 : AQ := (.seq f30b9 f30b4)
def f30r11 : List AI := [⟨none, (.call (some 7) 11 [(.v (.k (.c (.int .i64 120))))])⟩, ⟨none, (.mov 6 (.t 7))⟩, ⟨none, (.extr 8 (.t 6) 0)⟩, ⟨none, (.extr 9 (.t 6) 1)⟩, ⟨none, (.alloc 4 25 [(.list 0 (some true) []), (.list 0 (some true) []), (.int .i64 0), (.bool false)])⟩, ⟨none, (.store 4 (.t 4) (.t 8))⟩, ⟨none, (.mov 5 (.t 9))⟩]
def f30b12 : AQ := (.seq (.region f30r11) f30b10)
def f30r13 : List AI := [⟨none, (.alloc 2 25 [(.list 0 (some true) []), (.list 0 (some true) []), (.int .i64 0), (.bool false)])⟩, ⟨none, (.mov 3 (.v (.k (.c (.bool false)))))⟩]
def f30b14 : AQ := (.seq (.region f30r13) f30b12)
def f30 : AQ := f30b14
theorem hf30 : cFunc Tryz.prog 30 = some ⟨23, f30.erase, [(RX.cell 2 4 true), (RX.t 3)]⟩ := by kernel_rfl
theorem okf30 : f30.ok = true := by kernel_rfl
end Go.Abs


namespace Go.Abs
theorem wrap_in {n : Int} (h1 : -9223372036854775808 ≤ n) (h2 : n ≤ 9223372036854775807) : IntKind.i64.wrap n = n := IntWalk.i64_in n ⟨h1, h2⟩
def lstC (sz : Nat) (rows : List (List C)) : C := .list (if rows.isEmpty then 0 else sz) none rows
abbrev lst (sz : Nat) (rows : List (List C)) : V := .k (.c (lstC sz rows))
def ints (l : List Int) : List (List C) := l.map fun n => [.int .i64 n]
theorem normRows_eq {α : Type} {f : α → List C} (hf : ∀ x, C.normRow (f x) = f x) (l : List α) : C.normRows (l.map f) = l.map f := by
  induction l with
  | nil => rfl
  | cons a l ih => simp [C.normRows, hf, ih]
theorem lstC_norm {α : Type} {f : α → List C} (hf : ∀ x, C.normRow (f x) = f x) (sz : Nat) (l : List α) : (lstC sz (l.map f)).norm = lstC sz (l.map f) := by
  unfold lstC
  simp only [C.norm, normRows_eq hf]
  cases l <;> simp
inductive Term where
  | mk (op n : Int) (args : List Term)
  deriving Inhabited
def Term.op : Term → Int | .mk o _ _ => o
def Term.n : Term → Int | .mk _ n _ => n
def Term.args : Term → List Term | .mk _ _ a => a
mutual
def encT : Term → List C
  | .mk o n a => [.int .i64 o, .int .i64 n, lstC 3 (encTs a)]
def encTs : List Term → List (List C)
  | [] => []
  | t :: l => encT t :: encTs l
end
theorem encTs_map : ∀ (l : List Term), encTs l = l.map encT
  | [] => rfl
  | t :: l => by simp [encTs, encTs_map l]
theorem encT_eq (t : Term) : encT t = [.int .i64 t.op, .int .i64 t.n, lstC 3 (t.args.map encT)] := by
  cases t with
  | mk o n a => simp [encT, Term.op, Term.n, Term.args, encTs_map]
mutual
theorem encT_norm : ∀ (t : Term), C.normRow (encT t) = encT t
  | .mk o n a => by
    simp only [encT, C.normRow, C.norm, lstC, encTs_norm a]
    cases a <;> simp [encTs]
theorem encTs_norm : ∀ (l : List Term), C.normRows (encTs l) = encTs l
  | [] => rfl
  | t :: l => by simp only [encTs, C.normRows, encT_norm t, encTs_norm l]
end
structure Choice where
  ask : Int
  by_ : Int
  whole : Bool
  deriving Inhabited
structure Rule where
  ask : Int
  term : Term
  deriving Inhabited
structure Order where
  name : List UInt8
  accepts : Bool
  choices : List Choice
  rules : List Rule
  deriving Inhabited
def encChoice (c : Choice) : List C := [.int .i64 c.ask, .int .i64 c.by_, .bool c.whole]
def encRule (r : Rule) : List C := .int .i64 r.ask :: encT r.term
def encOrder (o : Order) : List C := [.str o.name, .bool o.accepts, lstC 3 (o.choices.map encChoice), lstC 4 (o.rules.map encRule)]
theorem encChoice_norm (c : Choice) : C.normRow (encChoice c) = encChoice c := rfl
theorem encRule_norm (r : Rule) : C.normRow (encRule r) = encRule r := by simp [encRule, C.normRow, C.norm, encT_norm]
theorem encOrder_norm (o : Order) : C.normRow (encOrder o) = encOrder o := by
  simp only [encOrder, C.normRow, C.norm, lstC_norm encChoice_norm, lstC_norm encRule_norm]
structure Cell where
  known : Bool
  n : Int
  deriving Inhabited
def encCell (c : Cell) : List C := [.bool c.known, .int .i64 c.n]
theorem encCell_norm (c : Cell) : C.normRow (encCell c) = encCell c := rfl
def encI (n : Int) : List C := [.int .i64 n]
@[simp] theorem normRow_int (k : IntKind) (n : Int) : C.normRow [.int k n] = [.int k n] := rfl
@[simp] theorem normRow_encI (n : Int) : C.normRow (encI n) = encI n := rfl
attribute [simp] encT_norm encChoice_norm encRule_norm encOrder_norm encCell_norm C.normRow
@[simp] theorem norm_int (k : IntKind) (n : Int) : (C.int k n).norm = .int k n := rfl
@[simp] theorem norm_bool (b : Bool) : (C.bool b).norm = .bool b := rfl
@[simp] theorem norm_str (s : List UInt8) : (C.str s).norm = .str s := rfl
@[simp] theorem norm_ro (row : List C) (off : Nat) : (C.ro row off).norm = .ro (C.normRow row) off := rfl
@[simp] theorem norm_fn (f : FuncId) (caps : List C) : (C.fn f caps).norm = .fn f (C.normRow caps) := rfl
@[simp] theorem normRows_T (l : List Term) : C.normRows (l.map encT) = l.map encT := normRows_eq encT_norm l
@[simp] theorem normRows_Ch (l : List Choice) : C.normRows (l.map encChoice) = l.map encChoice := normRows_eq encChoice_norm l
@[simp] theorem normRows_R (l : List Rule) : C.normRows (l.map encRule) = l.map encRule := normRows_eq encRule_norm l
@[simp] theorem normRows_O (l : List Order) : C.normRows (l.map encOrder) = l.map encOrder := normRows_eq encOrder_norm l
@[simp] theorem normRows_Ce (l : List Cell) : C.normRows (l.map encCell) = l.map encCell := normRows_eq encCell_norm l
@[simp] theorem normRows_ints (l : List Int) : C.normRows (ints l) = ints l := normRows_eq (fun _ => rfl) l
@[simp] theorem normRows_nil : C.normRows [] = [] := rfl
@[simp] theorem normRows_cons (r : List C) (l : List (List C)) : C.normRows (r :: l) = C.normRow r :: C.normRows l := rfl
@[simp] theorem ints_len (l : List Int) : (ints l).length = l.length := by simp [ints]
@[simp] theorem ints_isEmpty (l : List Int) : (ints l).isEmpty = l.isEmpty := by cases l <;> rfl
theorem r_vLen_lst (o : Nat → Option O) (sz : Nat) (rows : List (List C)) : vLen o (.k (.c (lstC sz rows))) = some (True, .int .i64 rows.length) := rfl
theorem r_vIaddr_lst (o : Nat → Option O) (sz : Nat) (rows : List (List C)) (k : IntKind) (n : Int) : vIaddr o sz (.k (.c (lstC sz rows))) (.k (.c (.int k n))) = some (0 ≤ n ∧ n < rows.length, .k (.pel sz rows n.toNat 0)) := by
  simp only [lstC, vIaddr, Option.some.injEq, Prod.mk.injEq]
  cases rows with
  | nil => simp; omega
  | cons a l =>
    refine ⟨?_, ?_⟩
    · simp
    · simp
def cutS2 (sz : Nat) (rows : List (List C)) : Option Int → Option Int → Option (Prop × V)
  | some l, some h => some (0 ≤ l ∧ l ≤ h ∧ h ≤ rows.length, .list sz none ((rows.take h.toNat).drop l.toNat))
  | _, _ => none
theorem r_vSlice_lst (sz : Nat) (lo hi : Option V) (rows : List (List C)) : vSlice sz lo hi (.k (.c (lstC sz rows))) = cutS2 sz rows (vBound 0 lo) (vBound rows.length hi) := by
  simp only [lstC, vSlice]
  generalize vBound 0 lo = a
  generalize vBound (↑rows.length) hi = b
  cases a <;> cases b <;> simp only [cutL, cutS2]
  simp only [Option.some.injEq, Prod.mk.injEq, and_true]
  cases rows <;> simp
theorem r_cutS2 (sz : Nat) (rows : List (List C)) (l h : Int) : cutS2 sz rows (some l) (some h) = some (0 ≤ l ∧ l ≤ h ∧ h ≤ rows.length, .list sz none ((rows.take h.toNat).drop l.toNat)) := id rfl
@[simp] theorem norm_lst (sz : Nat) (rows : List (List C)) : (lstC sz rows).norm = lstC sz (C.normRows rows) := by
  unfold lstC
  simp only [C.norm]
  cases rows <;> simp [C.normRows]
@[simp] theorem norm_list (sz : Nat) (nl : Option Bool) (rows : List (List C)) : (C.list sz nl rows).norm = lstC sz (C.normRows rows) := by
  unfold lstC
  simp only [C.norm]
  cases rows <;> simp [C.normRows]
theorem r_all_noRef (d : Nat) (r : List C) : (r.map Abs.K.c).all (Abs.K.noRef d) = true := by induction r <;> simp_all [Abs.K.noRef]
theorem len_lst {sz : Nat} {rows : List (List C)} {l : List V} (hm : lst sz rows ∈ l) (h : ∀ v, v ∈ l → ∀ c, c ∈ v.topC → ∀ sz nl rows, c = .list sz nl rows → rows.length ≤ 9223372036854775807) : rows.length ≤ 9223372036854775807 :=
  h _ hm (lstC sz rows) (by simp [V.topC]) _ _ _ rfl
section
variable {P : Program} {f : FuncId} {vs : List V} {K : KK} {d : Nat} {ts : TS} {os : OS}
theorem call_s {args : List V} {r : V} {X : Prop} (hs : Spec P f args (fun r' => r' = r)) (hk : K (insT d r ts) os)
    (hp : vs.all (fun v => (lendL os v).isPure) = true := by simp [lendL, lendO, lookO, V.isPure])
    (ha : vs.map (fun v => (lendL os v).norm) = args := by simp [lendL, lendO, lookO, V.norm, encT_eq, encRule, encOrder, encChoice, encCell, norm_list, lst]) (hr : r.scalar = true := by rfl) : callK P f vs [] K (some d) ts os ∨ X := by
  refine .inl ⟨hp, r, .inl ?_, ?_⟩
  · simpa [ha] using hs
  · rw [if_pos hr]; exact hk
theorem call_c {cs : List C} {args : List V} {r : V} {X : Prop} (hs : Spec P f args (fun r' => r' = r)) (hk : K (insT d r ts) os)
    (hp : vs.all (fun v => (lendL os v).isPure) = true := by simp [lendL, lendO, lookO, V.isPure])
    (ha : (vs.map (fun v => (lendL os v).norm) ++ cs.map fun c => .k (.c c.norm)) = args := by simp [lendL, lendO, lookO, V.norm, encT_eq, encRule, encOrder, encChoice, encCell, norm_list, lst]) (hr : r.scalar = true := by rfl) : callK P f vs cs K (some d) ts os ∨ X := by
  refine .inl ⟨hp, r, .inl (by rw [ha]; exact hs), ?_⟩
  rw [if_pos hr]; exact hk
theorem call_r {args : List V} {r : V} {X : Prop} (hs : Spec P f args (fun r' => r' = r)) (hk : retK r K ts os (some d))
    (hp : vs.all (fun v => (lendL os v).isPure) = true := by simp [lendL, lendO, lookO, V.isPure])
    (ha : vs.map (fun v => (lendL os v).norm) = args := by simp [lendL, lendO, lookO, V.norm, encT_eq, encRule, encOrder, encChoice, encCell, norm_list, lst])
    (ht : vs.all (fun v => v.toks.isEmpty) = true := by simp [V.toks, K.toks]) (hr : r.scalar = false := by rfl) : callK P f vs [] K (some d) ts os ∨ X := by
  refine .inl ⟨hp, r, .inl (by simpa [ha] using hs), ?_⟩
  rw [if_neg (by simp [hr])]
  exact ⟨ht, hk⟩
theorem call_l {args : List V} {e sz : Nat} {nl : Option Bool} {rows : List (List C)} {X : Prop} (hs : Spec P f args (fun r' => r' = .k (.newl e sz nl rows))) (hk : K (insT d (.k (.own d)) ts) (insO d (.arr e sz nl rows) os))
    (hp : vs.all (fun v => (lendL os v).isPure) = true := by simp [lendL, lendO, lookO, V.isPure])
    (ha : vs.map (fun v => (lendL os v).norm) = args := by simp [lendL, lendO, lookO, V.norm, encT_eq, encRule, encOrder, encChoice, encCell, norm_list, lst])
    (ht : vs.all (fun v => v.toks.isEmpty) = true := by simp [V.toks, K.toks]) (hf : freeB d ts os := by first | rfl | simp [freeB, freeT, freeO, V.noRef, V.noRefL, O.noRef, Abs.K.noRef, r_all_noRef]) : callK P f vs [] K (some d) ts os ∨ X := by
  refine .inl ⟨hp, _, .inl (by simpa [ha] using hs), ?_⟩
  rw [if_neg (by simp [V.scalar])]
  refine ⟨ht, ?_⟩
  show regK _ _ _ _ _ _
  refine ⟨⟨⟨hf, .inl rfl⟩, trivial⟩, hk⟩
theorem callQ_s {args : List V} {r : V} (hs : Spec P f args (fun r' => r' = r)) (hk : K (insT d r.fz ts) os)
    (hp : vs.all (fun v => (lendL os v).isPure) = true := by simp [lendL, lendO, lookO, V.isPure])
    (ha : vs.map (fun v => (lendL os v).norm) = args := by simp [lendL, lendO, lookO, V.norm, encT_eq, encRule, encOrder, encChoice, encCell, norm_list, lst]) (hr : r.scalar = true := by rfl) : callQK P f vs [] K d ts os :=
  ⟨hp, r, by simpa [ha] using hs, .inl hr, hk⟩
theorem callQ_l {args : List V} {r : V} (hs : Spec P f args (fun r' => r' = r)) (hk : K (insT d r.fz ts) os)
    (hp : vs.all (fun v => (lendL os v).isPure) = true := by simp [lendL, lendO, lookO, V.isPure])
    (ha : vs.map (fun v => (lendL os v).norm) = args := by simp [lendL, lendO, lookO, V.norm, encT_eq, encRule, encOrder, encChoice, encCell, norm_list, lst]) (hr : vs.all (fun v => v.toks.isEmpty) = true := by simp [V.toks, K.toks]) : callQK P f vs [] K d ts os :=
  ⟨hp, r, by simpa [ha] using hs, .inr hr, hk⟩
end
end Go.Abs


set_option maxRecDepth 100000
namespace Go.Abs
theorem Qs : ((((((((type_of% @q_insT_eq_1 ∧ type_of% @q_look_eq_1) ∧ (type_of% @lookT_here ∧ type_of% @q_wpLs_eq_2)) ∧ ((type_of% @q_wpL_eq_1 ∧ type_of% @true_and) ∧ (type_of% @q_wpLs_eq_1 ∧ (type_of% @q_exL_eq_1 ∧ type_of% @lookT_next)))) ∧ (((type_of% @q_AE_thenL_eq_1 ∧ type_of% @q_putK_eq_1) ∧ (type_of% @q_awl_eq_2 ∧ type_of% @q_awl_eq_5)) ∧ ((type_of% @q_look_eq_2 ∧ type_of% @Nat.zero_add) ∧ (type_of% @q_vBin_eq_1 ∧ (type_of% @q_resV_eq_1 ∧ type_of% @q_exL_eq_11))))) ∧ ((((type_of% @and_self ∧ type_of% @q_List_map_nil) ∧ (type_of% @q_awl_eq_6 ∧ type_of% @q_condK_eq_1)) ∧ ((type_of% @q_List_map_cons ∧ type_of% @q_learn_eq_1) ∧ (type_of% @q_binV_eq_1 ∧ (type_of% @q_binInt_eq_3 ∧ type_of% @lookO_here)))) ∧ (((type_of% @q_List_length_nil ∧ type_of% @q_List_length_cons) ∧ (type_of% @Nat.le_refl ∧ (type_of% @q_List_drop_zero ∧ type_of% @q_List_take_zero))) ∧ ((type_of% @q_List_take_succ_cons ∧ type_of% @q_Option_map_some) ∧ (type_of% @q_mapT_eq_2 ∧ (type_of% @q_mapO_eq_1 ∧ type_of% @q_insO_eq_1)))))) ∧ (((((type_of% @q_mapT_eq_1 ∧ type_of% @q_condB_eq_2) ∧ (type_of% @q_pureRow_eq_1 ∧ type_of% @q_pureRow_eq_2)) ∧ ((type_of% @q_awl_eq_10 ∧ type_of% @q_endK_eq_2) ∧ (type_of% @q_endL_eq_1 ∧ (type_of% @q_endV_eq_1 ∧ type_of% @q_resL_eq_1)))) ∧ (((type_of% @q_resL_eq_2 ∧ type_of% @q_V_nrm_eq_1) ∧ (type_of% @q_K_nrm_eq_1 ∧ (type_of% @q_resX_eq_1 ∧ type_of% @q_V_owns_eq_1))) ∧ ((type_of% @q_V_toNew_eq_1 ∧ type_of% @q_C_norm_eq_4) ∧ (type_of% @q_C_norm_eq_5 ∧ (type_of% @q_exL_eq_8 ∧ type_of% @q_K_owns_eq_2))))) ∧ ((((type_of% @q_K_toNew_eq_1 ∧ type_of% @q_awl_eq_1) ∧ (type_of% @q_condB_eq_1 ∧ type_of% @q_loadO_eq_1)) ∧ ((type_of% @q_isV_eq_1 ∧ type_of% @q_vLoad_eq_1) ∧ (type_of% @q_cutInt_eq_8 ∧ (type_of% @q_ofRow_eq_2 ∧ type_of% @q_List_drop_succ_cons)))) ∧ (((type_of% @lookO_next ∧ type_of% @Bool.false_eq_true) ∧ (type_of% @q_mapO_eq_2 ∧ (type_of% @q_exL_eq_3 ∧ type_of% @q_List_nil_append))) ∧ ((type_of% @not_false_eq_true ∧ type_of% @q_AOp_dst_eq_10) ∧ (type_of% @norm_lst ∧ (type_of% @q_splice_eq_1 ∧ type_of% @q_stVarK_eq_1))))))) ∧ ((((((type_of% @q_storeK_eq_1 ∧ type_of% @q_K_nrm_eq_3) ∧ (type_of% @decide_false ∧ type_of% @q_AOp_dst_eq_1)) ∧ ((type_of% @q_exL_eq_28 ∧ type_of% @Bool.and_true) ∧ (type_of% @decide_true ∧ (type_of% @q_freeB_eq_1 ∧ type_of% @q_freeT_eq_1)))) ∧ (((type_of% @q_freeT_eq_2 ∧ type_of% @q_freeO_eq_1) ∧ (type_of% @Bool.or_true ∧ type_of% @q_one_eq_2)) ∧ ((type_of% @q_V_owns_eq_3 ∧ type_of% @q_V_ownsL_eq_1) ∧ (type_of% @q_V_ownsL_eq_2 ∧ (type_of% @q_V_toNew_eq_4 ∧ type_of% @q_V_toNewL_eq_1))))) ∧ ((((type_of% @q_V_toNewL_eq_2 ∧ type_of% @q_exL_eq_9) ∧ (type_of% @q_awl_eq_7 ∧ type_of% @q_exL_eq_30)) ∧ ((type_of% @q_O_nrm_eq_1 ∧ type_of% @q_V_noRef_eq_1) ∧ (type_of% @q_K_noRef_eq_1 ∧ (type_of% @q_C_norm_eq_6 ∧ type_of% @q_exK_eq_1)))) ∧ (((type_of% @q_Bool_not_true ∧ type_of% @q_C_normRow_eq_1) ∧ (type_of% @q_V_cells_eq_2 ∧ (type_of% @q_AE_thenL_eq_3 ∧ type_of% @q_Bool_not_false))) ∧ ((type_of% @q_vPick_eq_1 ∧ type_of% @r_vLen_lst) ∧ (type_of% @q_C_normRow_eq_2 ∧ (type_of% @Nat.add_zero ∧ type_of% @q_V_nrm_eq_2)))))) ∧ (((((type_of% @q_C_normRows_eq_1 ∧ type_of% @q_vFaddr_eq_1) ∧ (type_of% @q_isVarO_eq_1 ∧ type_of% @q_freeO_eq_2)) ∧ ((type_of% @q_lookO_eq_1 ∧ type_of% @Bool.false_or) ∧ (type_of% @q_guardP_eq_2 ∧ (type_of% @q_C_norm_eq_1 ∧ type_of% @q_cutInt_eq_7)))) ∧ (((type_of% @q_ofRow_eq_1 ∧ type_of% @q_List_isEmpty_nil) ∧ (type_of% @q_initT_eq_1 ∧ (type_of% @q_resX_eq_2 ∧ type_of% @q_resCell_eq_1))) ∧ ((type_of% @q_initT_eq_2 ∧ type_of% @q_vExtr_eq_1) ∧ (type_of% @q_List_getElemQ_cons_zero ∧ (type_of% @q_List_getElemQ_cons_succ ∧ type_of% @q_exL_eq_21))))) ∧ ((((type_of% @q_V_noRef_eq_2 ∧ type_of% @q_K_noRef_eq_3) ∧ (type_of% @q_O_noRef_eq_1 ∧ type_of% @q_List_all_cons)) ∧ ((type_of% @q_List_all_nil ∧ type_of% @q_exL_eq_27) ∧ (type_of% @q_one_eq_1 ∧ (type_of% @Int.toNat_natCast ∧ type_of% @q_cutInt_eq_10)))) ∧ (((type_of% @q_guardP_eq_1 ∧ type_of% @q_V_owns_eq_4) ∧ (type_of% @q_V_toNew_eq_2 ∧ (type_of% @Int.natCast_nonneg ∧ type_of% @Bool.true_and))) ∧ ((type_of% @q_cutInt_eq_1 ∧ type_of% @q_AE_inBlockL_eq_1) ∧ (type_of% @q_vLenS_eq_1 ∧ (type_of% @q_putDL_eq_1 ∧ type_of% @q_awl_eq_9)))))))) ∧ (((((((type_of% @q_AE_thenL_eq_2 ∧ type_of% @q_AE_inBlockL_eq_2) ∧ (type_of% @q_exL_eq_31 ∧ type_of% @q_exL_eq_4)) ∧ ((type_of% @q_freesL_eq_1 ∧ type_of% @q_addsL_eq_1) ∧ (type_of% @q_regK_eq_1 ∧ (type_of% @q_retK_eq_2 ∧ type_of% @q_vUn_eq_1)))) ∧ (((type_of% @q_mapC_eq_1 ∧ type_of% @Bool.and_eq_true) ∧ (type_of% @q_wpLQ_eq_1 ∧ type_of% @q_exL_eq_15)) ∧ ((type_of% @q_regN_eq_2 ∧ type_of% @q_List_getD_cons_zero) ∧ (type_of% @q_unV_eq_2 ∧ (type_of% @q_vLoad_eq_2 ∧ type_of% @q_vBuild_eq_1))))) ∧ ((((type_of% @q_rowV_eq_1 ∧ type_of% @q_partV_eq_2) ∧ (type_of% @q_exL_eq_6 ∧ type_of% @q_V_reg_eq_4)) ∧ ((type_of% @r_vIaddr_lst ∧ type_of% @q_exL_eq_23) ∧ (type_of% @q_V_reg_eq_3 ∧ (type_of% @q_V_regL_eq_1 ∧ type_of% @q_V_regL_eq_2)))) ∧ (((type_of% @q_V_nrm_eq_4 ∧ type_of% @q_V_nrmL_eq_1) ∧ (type_of% @q_V_nrmL_eq_2 ∧ (type_of% @q_AOp_dst_eq_8 ∧ type_of% @q_V_nrm_eq_5))) ∧ ((type_of% @q_K_noRef_eq_2 ∧ type_of% @q_O_noRef_eq_2) ∧ (type_of% @q_AOp_dst_eq_28 ∧ (type_of% @q_AOp_dst_eq_27 ∧ type_of% @q_binV_eq_2)))))) ∧ (((((type_of% @q_cutInt_eq_11 ∧ type_of% @q_O_nrm_eq_2) ∧ (type_of% @q_AOp_dst_eq_20 ∧ type_of% @Int.cast_ofNat_Int)) ∧ ((type_of% @q_vPick_eq_2 ∧ type_of% @q_cutInt_eq_6) ∧ (type_of% @q_exL_eq_5 ∧ (type_of% @q_boxK_eq_1 ∧ type_of% @q_exLQ_eq_1)))) ∧ (((type_of% @q_wpLQs_eq_2 ∧ type_of% @q_AE_inBlockL_eq_3) ∧ (type_of% @q_List_replicate_succ ∧ (type_of% @q_List_replicate_zero ∧ type_of% @q_List_cons_append))) ∧ ((type_of% @q_isArrO_eq_1 ∧ type_of% @q_K_owns_eq_1) ∧ (type_of% @q_K_toNew_eq_2 ∧ (type_of% @false_implies ∧ type_of% @and_true))))) ∧ ((((type_of% @q_V_noRef_eq_4 ∧ type_of% @q_V_noRefL_eq_1) ∧ (type_of% @q_V_noRefL_eq_2 ∧ type_of% @or_false)) ∧ ((type_of% @q_List_foldl_nil ∧ type_of% @q_exLQ_eq_9) ∧ (type_of% @q_vPick_eq_3 ∧ (type_of% @q_exLQ_eq_29 ∧ type_of% @q_vLits_eq_1)))) ∧ (((type_of% @q_List_foldl_cons ∧ type_of% @q_vRow_eq_1) ∧ (type_of% @q_vLits_eq_2 ∧ (type_of% @q_List_set_cons_zero ∧ type_of% @q_delO_eq_1))) ∧ ((type_of% @q_delO_eq_2 ∧ type_of% @q_wpLT_eq_4) ∧ (type_of% @q_exL_eq_7 ∧ (type_of% @q_bsK_eq_1 ∧ type_of% @q_wpLQs_eq_1))))))) ∧ ((((((type_of% @q_vBound_eq_2 ∧ type_of% @q_K_nrm_eq_2) ∧ (type_of% @q_K_noRef_eq_5 ∧ type_of% @q_V_cells_eq_1)) ∧ ((type_of% @q_pureRow_eq_3 ∧ type_of% @q_exL_eq_2) ∧ (type_of% @q_binStr_eq_1 ∧ (type_of% @q_cutS_eq_1 ∧ type_of% @q_vSlstr_eq_1)))) ∧ (((type_of% @q_AOp_dst_eq_3 ∧ type_of% @q_awl_eq_3) ∧ (type_of% @q_exLQ_eq_22 ∧ type_of% @q_AOp_dst_eq_24)) ∧ ((type_of% @q_cutInt_eq_9 ∧ type_of% @q_cutInt_eq_2) ∧ (type_of% @condB_beq ∧ (type_of% @q_V_cells_eq_3 ∧ type_of% @q_nlApp_eq_2))))) ∧ ((((type_of% @q_cutInt_eq_3 ∧ type_of% @q_V_noRef_eq_6) ∧ (type_of% @q_exLQ_eq_10 ∧ type_of% @q_exLQ_eq_12)) ∧ ((type_of% @q_Option_map_none ∧ type_of% @Int.toNat_zero) ∧ (type_of% @q_V_nrm_eq_3 ∧ (type_of% @q_V_owns_eq_2 ∧ type_of% @q_V_toNew_eq_3)))) ∧ (((type_of% @q_List_flatMap_cons ∧ type_of% @q_List_flatMap_nil) ∧ (type_of% @q_appK_eq_1 ∧ (type_of% @q_appendK_eq_1 ∧ type_of% @q_V_scrub_eq_1))) ∧ ((type_of% @q_K_scrub_eq_1 ∧ type_of% @q_K_scrub_eq_5) ∧ (type_of% @q_exL_eq_25 ∧ (type_of% @q_vSidx_eq_1 ∧ type_of% @q_AOp_dst_eq_32)))))) ∧ (((((type_of% @q_vBound_eq_1 ∧ type_of% @q_exL_eq_20) ∧ (type_of% @q_O_scrub_eq_2 ∧ type_of% @q_V_fz_eq_1)) ∧ ((type_of% @q_K_fz_eq_2 ∧ type_of% @q_exL_eq_33) ∧ (type_of% @q_srcO_eq_1 ∧ (type_of% @q_srcV_eq_2 ∧ type_of% @q_AOp_dst_eq_14)))) ∧ (((type_of% @condB_bne ∧ type_of% @q_binStr_eq_3) ∧ (type_of% @condB_decide ∧ (type_of% @q_awl_eq_11 ∧ type_of% @q_keepT_eq_1))) ∧ ((type_of% @q_keepT_eq_2 ∧ type_of% @q_keepO_eq_1) ∧ (type_of% @q_keepO_eq_2 ∧ (type_of% @q_addO_eq_1 ∧ type_of% @q_addO_eq_2))))) ∧ ((((type_of% @q_exLQ_eq_24 ∧ type_of% @q_vIaddr_eq_2) ∧ (type_of% @q_idxO_eq_1 ∧ type_of% @q_awl_eq_4)) ∧ ((type_of% @condB_not ∧ type_of% @z_V_k) ∧ (type_of% @z_K_c ∧ (type_of% @z_frzT ∧ type_of% @z_frzO)))) ∧ (((type_of% @z_K_own_arr ∧ type_of% @Nat.succ_ne_self) ∧ (type_of% @not_true_eq_false ∧ (type_of% @q_guardP_eq_3 ∧ type_of% @q_loadO_eq_2))) ∧ ((type_of% @q_isA_eq_1 ∧ type_of% @q_vLoad_eq_3) ∧ (type_of% @q_wpLT_eq_1 ∧ (type_of% @q_wpLT_eq_3 ∧ type_of% @q_wpLT_eq_5))))))))) := ⟨⟨⟨⟨⟨⟨⟨⟨@q_insT_eq_1, @q_look_eq_1⟩, ⟨@lookT_here, @q_wpLs_eq_2⟩⟩, ⟨⟨@q_wpL_eq_1, @true_and⟩, ⟨@q_wpLs_eq_1, ⟨@q_exL_eq_1, @lookT_next⟩⟩⟩⟩, ⟨⟨⟨@q_AE_thenL_eq_1, @q_putK_eq_1⟩, ⟨@q_awl_eq_2, @q_awl_eq_5⟩⟩, ⟨⟨@q_look_eq_2, @Nat.zero_add⟩, ⟨@q_vBin_eq_1, ⟨@q_resV_eq_1, @q_exL_eq_11⟩⟩⟩⟩⟩, ⟨⟨⟨⟨@and_self, @q_List_map_nil⟩, ⟨@q_awl_eq_6, @q_condK_eq_1⟩⟩, ⟨⟨@q_List_map_cons, @q_learn_eq_1⟩, ⟨@q_binV_eq_1, ⟨@q_binInt_eq_3, @lookO_here⟩⟩⟩⟩, ⟨⟨⟨@q_List_length_nil, @q_List_length_cons⟩, ⟨@Nat.le_refl, ⟨@q_List_drop_zero, @q_List_take_zero⟩⟩⟩, ⟨⟨@q_List_take_succ_cons, @q_Option_map_some⟩, ⟨@q_mapT_eq_2, ⟨@q_mapO_eq_1, @q_insO_eq_1⟩⟩⟩⟩⟩⟩, ⟨⟨⟨⟨⟨@q_mapT_eq_1, @q_condB_eq_2⟩, ⟨@q_pureRow_eq_1, @q_pureRow_eq_2⟩⟩, ⟨⟨@q_awl_eq_10, @q_endK_eq_2⟩, ⟨@q_endL_eq_1, ⟨@q_endV_eq_1, @q_resL_eq_1⟩⟩⟩⟩, ⟨⟨⟨@q_resL_eq_2, @q_V_nrm_eq_1⟩, ⟨@q_K_nrm_eq_1, ⟨@q_resX_eq_1, @q_V_owns_eq_1⟩⟩⟩, ⟨⟨@q_V_toNew_eq_1, @q_C_norm_eq_4⟩, ⟨@q_C_norm_eq_5, ⟨@q_exL_eq_8, @q_K_owns_eq_2⟩⟩⟩⟩⟩, ⟨⟨⟨⟨@q_K_toNew_eq_1, @q_awl_eq_1⟩, ⟨@q_condB_eq_1, @q_loadO_eq_1⟩⟩, ⟨⟨@q_isV_eq_1, @q_vLoad_eq_1⟩, ⟨@q_cutInt_eq_8, ⟨@q_ofRow_eq_2, @q_List_drop_succ_cons⟩⟩⟩⟩, ⟨⟨⟨@lookO_next, @Bool.false_eq_true⟩, ⟨@q_mapO_eq_2, ⟨@q_exL_eq_3, @q_List_nil_append⟩⟩⟩, ⟨⟨@not_false_eq_true, @q_AOp_dst_eq_10⟩, ⟨@norm_lst, ⟨@q_splice_eq_1, @q_stVarK_eq_1⟩⟩⟩⟩⟩⟩⟩, ⟨⟨⟨⟨⟨⟨@q_storeK_eq_1, @q_K_nrm_eq_3⟩, ⟨@decide_false, @q_AOp_dst_eq_1⟩⟩, ⟨⟨@q_exL_eq_28, @Bool.and_true⟩, ⟨@decide_true, ⟨@q_freeB_eq_1, @q_freeT_eq_1⟩⟩⟩⟩, ⟨⟨⟨@q_freeT_eq_2, @q_freeO_eq_1⟩, ⟨@Bool.or_true, @q_one_eq_2⟩⟩, ⟨⟨@q_V_owns_eq_3, @q_V_ownsL_eq_1⟩, ⟨@q_V_ownsL_eq_2, ⟨@q_V_toNew_eq_4, @q_V_toNewL_eq_1⟩⟩⟩⟩⟩, ⟨⟨⟨⟨@q_V_toNewL_eq_2, @q_exL_eq_9⟩, ⟨@q_awl_eq_7, @q_exL_eq_30⟩⟩, ⟨⟨@q_O_nrm_eq_1, @q_V_noRef_eq_1⟩, ⟨@q_K_noRef_eq_1, ⟨@q_C_norm_eq_6, @q_exK_eq_1⟩⟩⟩⟩, ⟨⟨⟨@q_Bool_not_true, @q_C_normRow_eq_1⟩, ⟨@q_V_cells_eq_2, ⟨@q_AE_thenL_eq_3, @q_Bool_not_false⟩⟩⟩, ⟨⟨@q_vPick_eq_1, @r_vLen_lst⟩, ⟨@q_C_normRow_eq_2, ⟨@Nat.add_zero, @q_V_nrm_eq_2⟩⟩⟩⟩⟩⟩, ⟨⟨⟨⟨⟨@q_C_normRows_eq_1, @q_vFaddr_eq_1⟩, ⟨@q_isVarO_eq_1, @q_freeO_eq_2⟩⟩, ⟨⟨@q_lookO_eq_1, @Bool.false_or⟩, ⟨@q_guardP_eq_2, ⟨@q_C_norm_eq_1, @q_cutInt_eq_7⟩⟩⟩⟩, ⟨⟨⟨@q_ofRow_eq_1, @q_List_isEmpty_nil⟩, ⟨@q_initT_eq_1, ⟨@q_resX_eq_2, @q_resCell_eq_1⟩⟩⟩, ⟨⟨@q_initT_eq_2, @q_vExtr_eq_1⟩, ⟨@q_List_getElemQ_cons_zero, ⟨@q_List_getElemQ_cons_succ, @q_exL_eq_21⟩⟩⟩⟩⟩, ⟨⟨⟨⟨@q_V_noRef_eq_2, @q_K_noRef_eq_3⟩, ⟨@q_O_noRef_eq_1, @q_List_all_cons⟩⟩, ⟨⟨@q_List_all_nil, @q_exL_eq_27⟩, ⟨@q_one_eq_1, ⟨@Int.toNat_natCast, @q_cutInt_eq_10⟩⟩⟩⟩, ⟨⟨⟨@q_guardP_eq_1, @q_V_owns_eq_4⟩, ⟨@q_V_toNew_eq_2, ⟨@Int.natCast_nonneg, @Bool.true_and⟩⟩⟩, ⟨⟨@q_cutInt_eq_1, @q_AE_inBlockL_eq_1⟩, ⟨@q_vLenS_eq_1, ⟨@q_putDL_eq_1, @q_awl_eq_9⟩⟩⟩⟩⟩⟩⟩⟩, ⟨⟨⟨⟨⟨⟨⟨@q_AE_thenL_eq_2, @q_AE_inBlockL_eq_2⟩, ⟨@q_exL_eq_31, @q_exL_eq_4⟩⟩, ⟨⟨@q_freesL_eq_1, @q_addsL_eq_1⟩, ⟨@q_regK_eq_1, ⟨@q_retK_eq_2, @q_vUn_eq_1⟩⟩⟩⟩, ⟨⟨⟨@q_mapC_eq_1, @Bool.and_eq_true⟩, ⟨@q_wpLQ_eq_1, @q_exL_eq_15⟩⟩, ⟨⟨@q_regN_eq_2, @q_List_getD_cons_zero⟩, ⟨@q_unV_eq_2, ⟨@q_vLoad_eq_2, @q_vBuild_eq_1⟩⟩⟩⟩⟩, ⟨⟨⟨⟨@q_rowV_eq_1, @q_partV_eq_2⟩, ⟨@q_exL_eq_6, @q_V_reg_eq_4⟩⟩, ⟨⟨@r_vIaddr_lst, @q_exL_eq_23⟩, ⟨@q_V_reg_eq_3, ⟨@q_V_regL_eq_1, @q_V_regL_eq_2⟩⟩⟩⟩, ⟨⟨⟨@q_V_nrm_eq_4, @q_V_nrmL_eq_1⟩, ⟨@q_V_nrmL_eq_2, ⟨@q_AOp_dst_eq_8, @q_V_nrm_eq_5⟩⟩⟩, ⟨⟨@q_K_noRef_eq_2, @q_O_noRef_eq_2⟩, ⟨@q_AOp_dst_eq_28, ⟨@q_AOp_dst_eq_27, @q_binV_eq_2⟩⟩⟩⟩⟩⟩, ⟨⟨⟨⟨⟨@q_cutInt_eq_11, @q_O_nrm_eq_2⟩, ⟨@q_AOp_dst_eq_20, @Int.cast_ofNat_Int⟩⟩, ⟨⟨@q_vPick_eq_2, @q_cutInt_eq_6⟩, ⟨@q_exL_eq_5, ⟨@q_boxK_eq_1, @q_exLQ_eq_1⟩⟩⟩⟩, ⟨⟨⟨@q_wpLQs_eq_2, @q_AE_inBlockL_eq_3⟩, ⟨@q_List_replicate_succ, ⟨@q_List_replicate_zero, @q_List_cons_append⟩⟩⟩, ⟨⟨@q_isArrO_eq_1, @q_K_owns_eq_1⟩, ⟨@q_K_toNew_eq_2, ⟨@false_implies, @and_true⟩⟩⟩⟩⟩, ⟨⟨⟨⟨@q_V_noRef_eq_4, @q_V_noRefL_eq_1⟩, ⟨@q_V_noRefL_eq_2, @or_false⟩⟩, ⟨⟨@q_List_foldl_nil, @q_exLQ_eq_9⟩, ⟨@q_vPick_eq_3, ⟨@q_exLQ_eq_29, @q_vLits_eq_1⟩⟩⟩⟩, ⟨⟨⟨@q_List_foldl_cons, @q_vRow_eq_1⟩, ⟨@q_vLits_eq_2, ⟨@q_List_set_cons_zero, @q_delO_eq_1⟩⟩⟩, ⟨⟨@q_delO_eq_2, @q_wpLT_eq_4⟩, ⟨@q_exL_eq_7, ⟨@q_bsK_eq_1, @q_wpLQs_eq_1⟩⟩⟩⟩⟩⟩⟩, ⟨⟨⟨⟨⟨⟨@q_vBound_eq_2, @q_K_nrm_eq_2⟩, ⟨@q_K_noRef_eq_5, @q_V_cells_eq_1⟩⟩, ⟨⟨@q_pureRow_eq_3, @q_exL_eq_2⟩, ⟨@q_binStr_eq_1, ⟨@q_cutS_eq_1, @q_vSlstr_eq_1⟩⟩⟩⟩, ⟨⟨⟨@q_AOp_dst_eq_3, @q_awl_eq_3⟩, ⟨@q_exLQ_eq_22, @q_AOp_dst_eq_24⟩⟩, ⟨⟨@q_cutInt_eq_9, @q_cutInt_eq_2⟩, ⟨@condB_beq, ⟨@q_V_cells_eq_3, @q_nlApp_eq_2⟩⟩⟩⟩⟩, ⟨⟨⟨⟨@q_cutInt_eq_3, @q_V_noRef_eq_6⟩, ⟨@q_exLQ_eq_10, @q_exLQ_eq_12⟩⟩, ⟨⟨@q_Option_map_none, @Int.toNat_zero⟩, ⟨@q_V_nrm_eq_3, ⟨@q_V_owns_eq_2, @q_V_toNew_eq_3⟩⟩⟩⟩, ⟨⟨⟨@q_List_flatMap_cons, @q_List_flatMap_nil⟩, ⟨@q_appK_eq_1, ⟨@q_appendK_eq_1, @q_V_scrub_eq_1⟩⟩⟩, ⟨⟨@q_K_scrub_eq_1, @q_K_scrub_eq_5⟩, ⟨@q_exL_eq_25, ⟨@q_vSidx_eq_1, @q_AOp_dst_eq_32⟩⟩⟩⟩⟩⟩, ⟨⟨⟨⟨⟨@q_vBound_eq_1, @q_exL_eq_20⟩, ⟨@q_O_scrub_eq_2, @q_V_fz_eq_1⟩⟩, ⟨⟨@q_K_fz_eq_2, @q_exL_eq_33⟩, ⟨@q_srcO_eq_1, ⟨@q_srcV_eq_2, @q_AOp_dst_eq_14⟩⟩⟩⟩, ⟨⟨⟨@condB_bne, @q_binStr_eq_3⟩, ⟨@condB_decide, ⟨@q_awl_eq_11, @q_keepT_eq_1⟩⟩⟩, ⟨⟨@q_keepT_eq_2, @q_keepO_eq_1⟩, ⟨@q_keepO_eq_2, ⟨@q_addO_eq_1, @q_addO_eq_2⟩⟩⟩⟩⟩, ⟨⟨⟨⟨@q_exLQ_eq_24, @q_vIaddr_eq_2⟩, ⟨@q_idxO_eq_1, @q_awl_eq_4⟩⟩, ⟨⟨@condB_not, @z_V_k⟩, ⟨@z_K_c, ⟨@z_frzT, @z_frzO⟩⟩⟩⟩, ⟨⟨⟨@z_K_own_arr, @Nat.succ_ne_self⟩, ⟨@not_true_eq_false, ⟨@q_guardP_eq_3, @q_loadO_eq_2⟩⟩⟩, ⟨⟨@q_isA_eq_1, @q_vLoad_eq_3⟩, ⟨@q_wpLT_eq_1, ⟨@q_wpLT_eq_3, @q_wpLT_eq_5⟩⟩⟩⟩⟩⟩⟩⟩⟩
end Go.Abs


namespace Go.Abs
section
variable {P : Program}
theorem shape_str {n : Nat} {t : TypeId} {r : List C} (hu : P.underlying t = some .string) (h : Shape P n t r) : ∃ s : List UInt8, r = [.str s] ∧ s.length ≤ 9223372036854775807 := by
  cases n with
  | zero => exact h.elim
  | succ n => simp only [Shape, hu] at h; exact h
theorem shape_slice {n : Nat} {t e : TypeId} {r : List C} (hu : P.underlying t = some (.slice e)) (h : Shape P n t r) : ∃ m rows, n = m + 1 ∧ r = [lstC (P.cellsOf e) rows] ∧ rows.length ≤ 9223372036854775807 ∧ ∀ x ∈ rows, Shape P m e x := by
  cases n with
  | zero => exact h.elim
  | succ n => simp only [Shape, hu] at h; obtain ⟨rows, h1, h2, h3⟩ := h; exact ⟨n, rows, rfl, h1, h2, h3⟩
theorem rows_of {α : Type} {S : List C → Prop} (enc : α → List C) (hS : ∀ r, S r → ∃ a, r = enc a) : ∀ (rows : List (List C)), (∀ r ∈ rows, S r) → ∃ l : List α, rows = l.map enc
  | [], _ => ⟨[], rfl⟩
  | r :: rows, h => by
    obtain ⟨a, ha⟩ := hS r (h r (by simp))
    obtain ⟨l, hl⟩ := rows_of enc hS rows (fun x hx => h x (by simp [hx]))
    exact ⟨a :: l, by rw [ha, hl]; rfl⟩
variable {tI tB tS tT tLT tR tLR tC tLC tO : TypeId}
end
end Go.Abs


namespace Go.Abs
section
variable {P : Program}
end
end Go.Abs


set_option maxRecDepth 100000
namespace Go.Proofs
open Go.Shelf Go.RowKit
def Tryz.laysMul_ren : Go.Shelf.Ren :=
  {
    f := fun x =>
      match x with
      | 212 => 78
      | 263 => 106
      | 264 => 107
      | n => n,
    t := fun x =>
      match x with
      | 46 => 84
      | 51 => 113
      | 146 => 116
      | 53 => 115
      | 148 => 118
      | n => n,
    g := fun n => n }
theorem Tryz.laysMul : Lays.n212 Tryz.prog Tryz.laysMul_ren :=
  { mixed := by kernel_rfl, f212 := Eq.trans Tryz.func78 (congrArg some (Eq.refl (Body.n212 Tryz.laysMul_ren))),
    f263 := Eq.trans Tryz.func106 (congrArg some (Eq.refl (Body.n263 Tryz.laysMul_ren))),
    f264 := Eq.trans Tryz.func107 (congrArg some (Eq.refl (Body.n264 Tryz.laysMul_ren))), t46 := Tryz.underlying84,
    a46 := Tryz.isAgg84, z46 := Tryz.sizeOf84, v46 := Tryz.zeroValue84, t51 := Tryz.underlying113, a51 := Tryz.isAgg113,
    z51 := Tryz.sizeOf113, v51 := Tryz.zeroValue113, t53 := Tryz.underlying115, a53 := Tryz.isAgg115,
    z53 := Tryz.sizeOf115, v53 := Tryz.zeroValue115, t146 := Tryz.underlying116, a146 := Tryz.isAgg116,
    z146 := Tryz.sizeOf116, v146 := Tryz.zeroValue116, t148 := Tryz.underlying118, a148 := Tryz.isAgg118,
    z148 := Tryz.sizeOf118, v148 := Tryz.zeroValue118 }
def Tryz.laysClone_ren : Go.Shelf.Ren :=
  {
    f := fun x =>
      match x with
      | 16 => 37
      | n => n,
    t := fun x =>
      match x with
      | 24 => 22
      | 9 => 9
      | 4 => 4
      | n => n,
    g := fun n => n }
theorem Tryz.laysClone : Lays2.n16 Tryz.prog Tryz.laysClone_ren :=
  { mixed := by kernel_rfl, f16 := Eq.trans Tryz.func37 (congrArg some (Eq.refl (Body2.n16 Tryz.laysClone_ren))),
    t4 := Tryz.underlying4, a4 := Tryz.isAgg4, z4 := Tryz.sizeOf4, v4 := Tryz.zeroValue4, t9 := Tryz.underlying9,
    a9 := Tryz.isAgg9, z9 := Tryz.sizeOf9, v9 := Tryz.zeroValue9, t24 := Tryz.underlying22, a24 := Tryz.isAgg22,
    z24 := Tryz.sizeOf22, v24 := Tryz.zeroValue22, i9 := by kernel_rfl }
def Tryz.laysSort_ren : Go.Shelf.Ren :=
  {
    f := fun x =>
      match x with
      | 190 => 49
      | 125 => 76
      | 258 => 75
      | 128 => 104
      | 129 => 105
      | 302 => 95
      | 303 => 96
      | 304 => 97
      | 305 => 98
      | 306 => 99
      | 307 => 100
      | 308 => 101
      | 309 => 102
      | 310 => 103
      | 333 => 113
      | 329 => 114
      | 330 => 115
      | 334 => 116
      | 335 => 117
      | 336 => 118
      | 344 => 124
      | n => n,
    t := fun x =>
      match x with
      | 31 => 22
      | 9 => 9
      | 3 => 3
      | 46 => 84
      | 0 => 0
      | 51 => 113
      | 53 => 115
      | 4 => 4
      | 183 => 107
      | 182 => 106
      | 131 => 101
      | 5 => 5
      | 218 => 121
      | 222 => 125
      | 228 => 131
      | 229 => 132
      | n => n,
    g := fun n => n }
theorem Tryz.laysSort : Lays.n190 Tryz.prog Tryz.laysSort_ren :=
  { mixed := by kernel_rfl, f125 := Eq.trans Tryz.func76 (congrArg some (Eq.refl (Body.n125 Tryz.laysSort_ren))),
    f128 := Eq.trans Tryz.func104 (congrArg some (Eq.refl (Body.n128 Tryz.laysSort_ren))),
    f129 := Eq.trans Tryz.func105 (congrArg some (Eq.refl (Body.n129 Tryz.laysSort_ren))),
    f190 := Eq.trans Tryz.func49 (congrArg some (Eq.refl (Body.n190 Tryz.laysSort_ren))),
    f258 := Eq.trans Tryz.func75 (congrArg some (Eq.refl (Body.n258 Tryz.laysSort_ren))),
    f302 := Eq.trans Tryz.func95 (congrArg some (Eq.refl (Body.n302 Tryz.laysSort_ren))),
    f303 := Eq.trans Tryz.func96 (congrArg some (Eq.refl (Body.n303 Tryz.laysSort_ren))),
    f304 := Eq.trans Tryz.func97 (congrArg some (Eq.refl (Body.n304 Tryz.laysSort_ren))),
    f305 := Eq.trans Tryz.func98 (congrArg some (Eq.refl (Body.n305 Tryz.laysSort_ren))),
    f306 := Eq.trans Tryz.func99 (congrArg some (Eq.refl (Body.n306 Tryz.laysSort_ren))),
    f307 := Eq.trans Tryz.func100 (congrArg some (Eq.refl (Body.n307 Tryz.laysSort_ren))),
    f308 := Eq.trans Tryz.func101 (congrArg some (Eq.refl (Body.n308 Tryz.laysSort_ren))),
    f309 := Eq.trans Tryz.func102 (congrArg some (Eq.refl (Body.n309 Tryz.laysSort_ren))),
    f310 := Eq.trans Tryz.func103 (congrArg some (Eq.refl (Body.n310 Tryz.laysSort_ren))),
    f329 := Eq.trans Tryz.func114 (congrArg some (Eq.refl (Body.n329 Tryz.laysSort_ren))),
    f330 := Eq.trans Tryz.func115 (congrArg some (Eq.refl (Body.n330 Tryz.laysSort_ren))),
    f333 := Eq.trans Tryz.func113 (congrArg some (Eq.refl (Body.n333 Tryz.laysSort_ren))),
    f334 := Eq.trans Tryz.func116 (congrArg some (Eq.refl (Body.n334 Tryz.laysSort_ren))),
    f335 := Eq.trans Tryz.func117 (congrArg some (Eq.refl (Body.n335 Tryz.laysSort_ren))),
    f336 := Eq.trans Tryz.func118 (congrArg some (Eq.refl (Body.n336 Tryz.laysSort_ren))),
    f344 := Eq.trans Tryz.func124 (congrArg some (Eq.refl (Body.n344 Tryz.laysSort_ren))), t0 := Tryz.underlying0,
    a0 := Tryz.isAgg0, z0 := Tryz.sizeOf0, v0 := Tryz.zeroValue0, t3 := Tryz.underlying3, a3 := Tryz.isAgg3,
    z3 := Tryz.sizeOf3, v3 := Tryz.zeroValue3, t4 := Tryz.underlying4, a4 := Tryz.isAgg4, z4 := Tryz.sizeOf4,
    v4 := Tryz.zeroValue4, t5 := Tryz.underlying5, a5 := Tryz.isAgg5, z5 := Tryz.sizeOf5, v5 := Tryz.zeroValue5,
    t9 := Tryz.underlying9, a9 := Tryz.isAgg9, z9 := Tryz.sizeOf9, v9 := Tryz.zeroValue9, t31 := Tryz.underlying22,
    a31 := Tryz.isAgg22, z31 := Tryz.sizeOf22, v31 := Tryz.zeroValue22, t46 := Tryz.underlying84, a46 := Tryz.isAgg84,
    z46 := Tryz.sizeOf84, v46 := Tryz.zeroValue84, t51 := Tryz.underlying113, a51 := Tryz.isAgg113, z51 := Tryz.sizeOf113,
    v51 := Tryz.zeroValue113, t53 := Tryz.underlying115, a53 := Tryz.isAgg115, z53 := Tryz.sizeOf115,
    v53 := Tryz.zeroValue115, t131 := Tryz.underlying101, a131 := Tryz.isAgg101, z131 := Tryz.sizeOf101,
    v131 := Tryz.zeroValue101, t182 := Tryz.underlying106, a182 := Tryz.isAgg106, z182 := Tryz.sizeOf106,
    v182 := Tryz.zeroValue106, t183 := Tryz.underlying107, a183 := Tryz.isAgg107, z183 := Tryz.sizeOf107,
    v183 := Tryz.zeroValue107, t218 := Tryz.underlying121, a218 := Tryz.isAgg121, z218 := Tryz.sizeOf121,
    v218 := Tryz.zeroValue121, t222 := Tryz.underlying125, a222 := Tryz.isAgg125, z222 := Tryz.sizeOf125,
    v222 := Tryz.zeroValue125, t228 := Tryz.underlying131, a228 := Tryz.isAgg131, z228 := Tryz.sizeOf131,
    v228 := Tryz.zeroValue131, t229 := Tryz.underlying132, a229 := Tryz.isAgg132, z229 := Tryz.sizeOf132,
    v229 := Tryz.zeroValue132 }
def Tryz.laysCompact_ren : Go.Shelf.Ren :=
  {
    f := fun x =>
      match x with
      | 194 => 50
      | n => n,
    t := fun x =>
      match x with
      | 31 => 22
      | 9 => 9
      | 3 => 3
      | 4 => 4
      | 0 => 0
      | n => n,
    g := fun n => n }
theorem Tryz.laysCompact : Lays.n194 Tryz.prog Tryz.laysCompact_ren :=
  { mixed := by kernel_rfl, f194 := Eq.trans Tryz.func50 (congrArg some (Eq.refl (Body.n194 Tryz.laysCompact_ren))),
    t0 := Tryz.underlying0, a0 := Tryz.isAgg0, z0 := Tryz.sizeOf0, v0 := Tryz.zeroValue0, t3 := Tryz.underlying3,
    a3 := Tryz.isAgg3, z3 := Tryz.sizeOf3, v3 := Tryz.zeroValue3, t4 := Tryz.underlying4, a4 := Tryz.isAgg4,
    z4 := Tryz.sizeOf4, v4 := Tryz.zeroValue4, t9 := Tryz.underlying9, a9 := Tryz.isAgg9, z9 := Tryz.sizeOf9,
    v9 := Tryz.zeroValue9, t31 := Tryz.underlying22, a31 := Tryz.isAgg22, z31 := Tryz.sizeOf22, v31 := Tryz.zeroValue22 }
def Tryz.laysDel_ren : Go.Shelf.Ren :=
  {
    f := fun x =>
      match x with
      | 10 => 52
      | 6 => 77
      | n => n,
    t := fun x =>
      match x with
      | 22 => 22
      | 23 => 9
      | 25 => 65
      | 3 => 3
      | 4 => 4
      | 0 => 0
      | n => n,
    g := fun n => n }
theorem Tryz.laysDel : SlLaysH.n10 Tryz.prog Tryz.laysDel_ren :=
  { mixed := by kernel_rfl,
    f6 :=
      Exists.intro "slices.IndexFunc[[]string,string]"
        ⟨of_decide_eq_true (id (Eq.refl true)),
          Eq.trans Tryz.func77
            (congrArg some
              (Eq.refl
                { SlBodyH.n6 Tryz.laysDel_ren with name := "slices.IndexFunc[[]string,string]" }))⟩,
    f10 :=
      Exists.intro "slices.DeleteFunc[[]string,string]"
        ⟨of_decide_eq_true (id (Eq.refl true)),
          Eq.trans Tryz.func52
            (congrArg some
              (Eq.refl
                { SlBodyH.n10 Tryz.laysDel_ren with name := "slices.DeleteFunc[[]string,string]" }))⟩,
    t0 := Tryz.underlying0, a0 := Tryz.isAgg0, z0 := Tryz.sizeOf0, v0 := Tryz.zeroValue0, t3 := Tryz.underlying3,
    a3 := Tryz.isAgg3, z3 := Tryz.sizeOf3, v3 := Tryz.zeroValue3, t4 := Tryz.underlying4, a4 := Tryz.isAgg4,
    z4 := Tryz.sizeOf4, v4 := Tryz.zeroValue4, t22 := Tryz.underlying22, a22 := Tryz.isAgg22, z22 := Tryz.sizeOf22,
    v22 := Tryz.zeroValue22, a23 := Tryz.isAgg9, z23 := Tryz.sizeOf9, t25 := Tryz.underlying65, a25 := Tryz.isAgg65,
    z25 := Tryz.sizeOf65, v25 := Tryz.zeroValue65 }
end Go.Proofs


set_option maxRecDepth 10000
namespace Go.Wire
open Go.Lib
abbrev Txt := List UInt8
theorem dg_toNat {d : Nat} (h : d < 10) : (UInt8.ofNat (48 + d)).toNat = 48 + d := by
  rw [UInt8.toNat_ofNat']; omega
theorem dec_small {u : Nat} (h : u < 10) : decDigits u = [UInt8.ofNat (48 + u)] := by rw [decDigits, dif_pos h]
theorem dec_big {u : Nat} (h : ¬ u < 10) : decDigits u = decDigits (u / 10) ++ [UInt8.ofNat (48 + u % 10)] := by rw [decDigits, dif_neg h]
theorem dec_dig (u : Nat) : ∀ c, c ∈ decDigits u → 48 ≤ c.toNat ∧ c.toNat ≤ 57 := by
  induction u using Nat.strongRecOn with
  | _ u ih =>
    intro c hc
    by_cases h : u < 10
    · rw [dec_small h, List.mem_singleton] at hc
      subst hc
      rw [dg_toNat h]; omega
    · rw [dec_big h, List.mem_append, List.mem_singleton] at hc
      rcases hc with hc | rfl
      · exact ih (u / 10) (by omega) c hc
      · rw [dg_toNat (by omega)]; omega
theorem dec_ne (u : Nat) : decDigits u ≠ [] := by
  by_cases h : u < 10
  · rw [dec_small h]; simp
  · rw [dec_big h]; simp
theorem dec_len : ∀ (k u : Nat), u < 10 ^ (k + 1) → (decDigits u).length ≤ k + 1
  | 0, u, h => by rw [dec_small (by simpa using h)]; simp
  | k + 1, u, h => by
    by_cases h10 : u < 10
    · rw [dec_small h10]; simp
    · rw [dec_big h10, List.length_append]
      have := dec_len k (u / 10) (by rw [Nat.pow_succ] at h; omega)
      simp only [List.length_singleton]; omega
theorem parse_append : ∀ (l1 l2 : Txt) (acc u : Nat), parseUint10 acc l1 = .ok u → parseUint10 acc (l1 ++ l2) = parseUint10 u l2
  | [], l2, acc, u, h => by
    simp only [parseUint10] at h
    injection h with h
    rw [h]; rfl
  | c :: r, l2, acc, u, h => by
    simp only [parseUint10] at h
    simp only [List.cons_append, parseUint10]
    split at h
    · rename_i h1
      rw [if_pos h1]
      split at h
      · cases h
      · rename_i h2
        rw [if_neg h2]
        split at h
        · cases h
        · rename_i h3
          rw [if_neg h3]
          exact parse_append r l2 _ u h
    · cases h
theorem parse_one {acc d : Nat} (hd : d < 10) (h : acc * 10 + d < 18446744073709551616) : parseUint10 acc [UInt8.ofNat (48 + d)] = .ok (acc * 10 + d) := by
  simp only [parseUint10, dg_toNat hd]
  rw [if_pos (by omega), if_neg (by omega), if_neg (by omega)]
  congr 1; omega
theorem parse_dec (u : Nat) (hu : u < 18446744073709551616) : parseUint10 0 (decDigits u) = .ok u := by
  induction u using Nat.strongRecOn with
  | _ u ih =>
    by_cases h : u < 10
    · rw [dec_small h, parse_one h (by omega)]; congr 1; omega
    · rw [dec_big h, parse_append _ _ 0 (u / 10) (ih (u / 10) (by omega) (by omega)), parse_one (by omega) (by omega)]
      congr 1; omega
def inI (n : Int) : Prop := -9223372036854775808 ≤ n ∧ n ≤ 9223372036854775807
theorem mag_dec (u : Nat) (hu : u < 18446744073709551616) : parseMag (decDigits u) = .ok u := by
  rw [parseMag, if_neg (dec_ne u), parse_dec u hu]
theorem atoi_itoa {n : Int} (h : inI n) : atoiAll (itoa n) = .ok n := by
  unfold itoa
  by_cases hn : n < 0
  · rw [if_pos hn]
    have h1 := mag_dec n.natAbs (by have := h.1; omega)
    have e45 : (45 : UInt8).toNat = 45 := rfl
    have h2 := h.1
    simp only [atoiAll, e45, true_or, or_true, if_true, h1]
    rw [if_neg (by simp), if_neg (by omega)]
    congr 1; omega
  · rw [if_neg hn]
    have h1 := mag_dec n.toNat (by have := h.2; omega)
    have hd := dec_dig n.toNat
    have h2 := h.2
    cases hl : decDigits n.toNat with
    | nil => exact absurd hl (dec_ne _)
    | cons c r =>
      rw [hl] at h1 hd
      have hc := hd c (by simp)
      have e1 : ¬ c.toNat = 43 := by omega
      have e2 : ¬ c.toNat = 45 := by omega
      simp only [atoiAll, e1, e2, or_self, if_false, h1, not_false_eq_true, true_and, false_and]
      rw [if_neg (by omega)]
      congr 1; omega
theorem atoi_in {l : Txt} {n : Int} (h : atoiAll l = .ok n) : inI n := by
  unfold atoiAll at h
  split at h
  · cases h
  · simp only [] at h
    split at h
    · cases h
    · cases h
    · rename_i u _
      split at h
      · cases h
      · rename_i a1
        split at h
        · cases h
        · rename_i a2
          injection h with h
          subst h
          unfold inI
          split
          · rename_i a3
            simp only [a3, true_and] at a2
            omega
          · rename_i a3
            simp only [a3, not_false_eq_true, true_and] at a1
            omega
theorem itoa_semi (n : Int) : ∀ c, c ∈ itoa n → c ≠ 59 := by
  intro c hc
  have : c.toNat = 45 ∨ 48 ≤ c.toNat ∧ c.toNat ≤ 57 := by
    unfold itoa at hc
    split at hc
    · rcases List.mem_cons.1 hc with rfl | hc
      · exact .inl rfl
      · exact .inr (dec_dig _ c hc)
    · exact .inr (dec_dig _ c hc)
  intro e
  subst e
  have e59 : (59 : UInt8).toNat = 59 := rfl
  omega
theorem itoa_len {n : Int} (h : inI n) : 1 ≤ (itoa n).length ∧ (itoa n).length ≤ 20 := by
  obtain ⟨h1, h2⟩ := h
  unfold itoa
  split
  · have := dec_len 18 n.natAbs (by omega)
    simp only [List.length_cons]; omega
  · have := dec_len 18 n.toNat (by omega)
    have h3 := List.length_pos_iff.2 (dec_ne n.toNat)
    omega
def wI (n : Int) : Txt := itoa n ++ [59]
def rI (s : Txt) : Option (Int × Txt) :=
  if (59 : UInt8) ∈ s.take 21 then
    match atoiAll ((s.take 21).takeWhile fun c => decide (c ≠ 59)) with
    | .ok n => if itoa n = (s.take 21).takeWhile (fun c => decide (c ≠ 59)) then some (n, s.drop ((itoa n).length + 1)) else none
    | _ => none
  else none
theorem cut_at {t : Txt} (h : (59 : UInt8) ∈ t) : ∃ r, t = t.takeWhile (fun c => decide (c ≠ 59)) ++ 59 :: r := by
  induction t with
  | nil => cases h
  | cons c t ih =>
    by_cases hc : c = 59
    · subst hc; exact ⟨t, by simp⟩
    · obtain ⟨r, hr⟩ := ih ((List.mem_cons.1 h).resolve_left (fun e => hc e.symm))
      refine ⟨r, ?_⟩
      rw [List.takeWhile_cons_of_pos (by simpa using hc), List.cons_append, ← hr]
theorem while_app {l r : Txt} (h : ∀ c, c ∈ l → c ≠ 59) : (l ++ 59 :: r).takeWhile (fun c => decide (c ≠ 59)) = l := by
  induction l with
  | nil => simp
  | cons c l ih =>
    rw [List.cons_append, List.takeWhile_cons_of_pos (by simpa using h c (by simp)), ih (fun x hx => h x (by simp [hx]))]
theorem rI_write {n : Int} (h : inI n) (r : Txt) : rI (wI n ++ r) = some (n, r) := by
  have hl := itoa_len h
  have e : (wI n ++ r).take 21 = itoa n ++ 59 :: (r.take (20 - (itoa n).length)) := by
    rw [wI, List.append_assoc, List.singleton_append, List.take_append, List.take_of_length_le (by omega)]
    congr 1
    obtain ⟨k, hk⟩ : ∃ k, 21 - (itoa n).length = k + 1 := ⟨20 - (itoa n).length, by omega⟩
    rw [hk, List.take_succ_cons]
    congr 2; omega
  have hw : ((wI n ++ r).take 21).takeWhile (fun c => decide (c ≠ 59)) = itoa n := by rw [e]; exact while_app (itoa_semi n)
  unfold rI
  rw [hw, if_pos (by rw [e]; simp), atoi_itoa h]
  simp only [if_true]
  congr 2
  rw [wI, List.append_assoc, List.drop_append]
  simp
theorem rI_some {s r : Txt} {n : Int} (h : rI s = some (n, r)) : inI n ∧ s = wI n ++ r := by
  unfold rI at h
  split at h
  · rename_i hm
    split at h
    · rename_i m hat
      split at h
      · rename_i hit
        cases h
        refine ⟨atoi_in hat, ?_⟩
        obtain ⟨q, hq⟩ := cut_at hm
        rw [← hit] at hq
        have e : s = itoa n ++ 59 :: (q ++ s.drop 21) := by
          rw [← List.cons_append, ← List.append_assoc, ← hq, List.take_append_drop]
        conv => rhs; rw [e]
        rw [wI, List.append_assoc, List.drop_append]
        conv => lhs; rw [e]
        simp
      · cases h
    · cases h
  · cases h
end Go.Wire


set_option maxRecDepth 10000
namespace Go.Wire
open Go.Lib
def Reads {α : Type} (w : α → Txt) (R : Txt → Option (α × Txt)) (ok : α → Prop) : Prop := ∀ s x r, R s = some (x, r) ↔ ok x ∧ s = w x ++ r
section
variable {α : Type} {w : α → Txt} {R : Txt → Option (α × Txt)} {ok : α → Prop}
theorem Reads.back (h : Reads w R ok) {x : α} (hx : ok x) (r : Txt) : R (w x ++ r) = some (x, r) := (h _ _ _).2 ⟨hx, rfl⟩
theorem Reads.uniq (h : Reads w R ok) {x y : α} {r q : Txt} (hx : ok x) (hy : ok y) (e : w x ++ r = w y ++ q) : x = y ∧ r = q := by
  have h1 := h.back hx r
  rw [e, h.back hy q] at h1
  cases h1
  exact ⟨rfl, rfl⟩
theorem Reads.inj (h : Reads w R ok) {x y : α} (hx : ok x) (hy : ok y) (e : w x = w y) : x = y := (h.uniq (r := []) (q := []) hx hy (by rw [e])).1
theorem Reads.cut (h : Reads w R ok) {x : α} (hx : ok x) {k : Nat} (hk : k < (w x).length) : R ((w x).take k) = none := by
  cases hr : R ((w x).take k) with
  | none => rfl
  | some p =>
    obtain ⟨y, r⟩ := p
    obtain ⟨hy, e⟩ := (h _ _ _).1 hr
    have e2 : w x ++ [] = w y ++ (r ++ (w x).drop k) := by
      rw [List.append_nil, ← List.append_assoc, ← e, List.take_append_drop]
    have h2 := (h.uniq hx hy e2).2
    have h3 : ((w x).drop k).length = 0 := by
      have := congrArg List.length h2
      simp only [List.length_nil, List.length_append] at this
      omega
    rw [List.length_drop] at h3
    omega
end
def wS (s : Txt) : Txt := wI s.length ++ s
def rS (s : Txt) : Option (Txt × Txt) := (rI s).bind fun p => if p.1 < 0 ∨ p.1 > p.2.length then none else some (p.2.take p.1.toNat, p.2.drop p.1.toNat)
def okS (s : Txt) : Prop := s.length ≤ 9223372036854775807
theorem reads_S : Reads wS rS okS := by
  intro s x r
  constructor
  · intro h
    unfold rS at h
    cases hr : rI s with
    | none => rw [hr] at h; cases h
    | some p =>
      obtain ⟨n, q⟩ := p
      rw [hr] at h
      simp only [Option.bind_some] at h
      split at h
      · cases h
      · rename_i hc
        cases h
        obtain ⟨⟨h1, h2⟩, e⟩ := rI_some hr
        have hl : (q.take n.toNat).length = n.toNat := by rw [List.length_take]; omega
        have hn : ((q.take n.toNat).length : Int) = n := by rw [hl]; omega
        refine ⟨by unfold okS; omega, ?_⟩
        rw [wS, hn, List.append_assoc, List.take_append_drop]
        exact e
  · rintro ⟨h1, rfl⟩
    unfold okS at h1
    unfold rS
    have e : wS x ++ r = wI x.length ++ (x ++ r) := by rw [wS, List.append_assoc]
    rw [e, rI_write ⟨by omega, by omega⟩]
    simp only [Option.bind_some]
    rw [if_neg (by simp only [List.length_append]; omega)]
    simp
theorem wI_len {n : Int} (h : inI n) : 2 ≤ (wI n).length := by
  have := itoa_len h
  rw [wI, List.length_append, List.length_singleton]; omega
theorem wS_len {s : Txt} (h : okS s) : 2 ≤ (wS s).length := by
  unfold okS at h
  have := wI_len (n := s.length) ⟨by omega, by omega⟩
  rw [wS, List.length_append]; omega
def wN {α : Type} (w : α → Txt) (l : List α) : Txt := (l.map w).flatten
section
variable {α : Type} {w : α → Txt} {R : Txt → Option (α × Txt)} {ok : α → Prop}
end
end Go.Wire


set_option maxRecDepth 10000
namespace Go.Wire
open Go.Lib
def putD : Nat → Nat → Txt → Txt
  | 0, _, out => out
  | k + 1, m, out => if m < 10 then UInt8.ofNat (48 + m) :: out else putD k (m / 10) (UInt8.ofNat (48 + m % 10) :: out)
def dv (c : UInt8) : Nat := c.toNat - 48
def val (a : Nat) (l : Txt) : Nat := l.foldl (fun a c => a * 10 + dv c) a
end Go.Wire


set_option maxRecDepth 100000
namespace Go.Proofs
open Go.Shelf Go.RowKit
def Tryz.laysCut_ren : Go.Shelf.Ren :=
  {
    f := fun x =>
      match x with
      | 145 => 121
      | 220 => 125
      | 219 => 129
      | 217 => 139
      | 225 => 140
      | 224 => 141
      | 267 => 142
      | 266 => 150
      | 314 => 151
      | n => n,
    t := fun x =>
      match x with
      | 9 => 9
      | 4 => 4
      | 59 => 59
      | 3 => 3
      | 5 => 5
      | 46 => 84
      | 146 => 116
      | 51 => 113
      | n => n,
    g := fun x =>
      match x with
      | 1 => 0
      | n => n }
theorem Tryz.laysCut : Lays.n145 Tryz.prog Tryz.laysCut_ren :=
  { mixed := by kernel_rfl, f145 := Eq.trans Tryz.func121 (congrArg some (Eq.refl (Body.n145 Tryz.laysCut_ren))),
    f217 := Eq.trans Tryz.func139 (congrArg some (Eq.refl (Body.n217 Tryz.laysCut_ren))),
    f219 := Eq.trans Tryz.func129 (congrArg some (Eq.refl (Body.n219 Tryz.laysCut_ren))),
    f220 := Eq.trans Tryz.func125 (congrArg some (Eq.refl (Body.n220 Tryz.laysCut_ren))),
    f224 := Eq.trans Tryz.func141 (congrArg some (Eq.refl (Body.n224 Tryz.laysCut_ren))),
    f225 := Eq.trans Tryz.func140 (congrArg some (Eq.refl (Body.n225 Tryz.laysCut_ren))),
    f266 := Eq.trans Tryz.func150 (congrArg some (Eq.refl (Body.n266 Tryz.laysCut_ren))),
    f267 := Eq.trans Tryz.func142 (congrArg some (Eq.refl (Body.n267 Tryz.laysCut_ren))),
    f314 := Eq.trans Tryz.func151 (congrArg some (Eq.refl (Body.n314 Tryz.laysCut_ren))), t3 := Tryz.underlying3,
    a3 := Tryz.isAgg3, z3 := Tryz.sizeOf3, v3 := Tryz.zeroValue3, t4 := Tryz.underlying4, a4 := Tryz.isAgg4,
    z4 := Tryz.sizeOf4, v4 := Tryz.zeroValue4, t5 := Tryz.underlying5, a5 := Tryz.isAgg5, z5 := Tryz.sizeOf5,
    v5 := Tryz.zeroValue5, t9 := Tryz.underlying9, a9 := Tryz.isAgg9, z9 := Tryz.sizeOf9, v9 := Tryz.zeroValue9,
    t46 := Tryz.underlying84, a46 := Tryz.isAgg84, z46 := Tryz.sizeOf84, v46 := Tryz.zeroValue84,
    t51 := Tryz.underlying113, a51 := Tryz.isAgg113, z51 := Tryz.sizeOf113, v51 := Tryz.zeroValue113,
    t59 := Tryz.underlying59, a59 := Tryz.isAgg59, z59 := Tryz.sizeOf59, v59 := Tryz.zeroValue59,
    t146 := Tryz.underlying116, a146 := Tryz.isAgg116, z146 := Tryz.sizeOf116, v146 := Tryz.zeroValue116,
    g1 := by kernel_rfl }
def Tryz.laysItoa_ren : Go.Shelf.Ren :=
  {
    f := fun x =>
      match x with
      | 171 => 112
      | 243 => 123
      | 246 => 128
      | 283 => 135
      | 284 => 136
      | 285 => 137
      | 286 => 138
      | 129 => 105
      | 317 => 146
      | 318 => 147
      | 319 => 148
      | 320 => 149
      | 337 => 154
      | 338 => 155
      | n => n,
    t := fun x =>
      match x with
      | 3 => 3
      | 9 => 9
      | 2 => 2
      | 4 => 4
      | 171 => 143
      | 0 => 0
      | 53 => 115
      | 37 => 90
      | 5 => 5
      | 173 => 145
      | 212 => 155
      | 51 => 113
      | 20 => 20
      | 213 => 156
      | 46 => 84
      | 232 => 163
      | 233 => 164
      | n => n,
    g := fun x =>
      match x with
      | 17 => 3
      | 18 => 4
      | 19 => 5
      | n => n }
theorem Tryz.laysItoa : LaysM.n171 Tryz.prog Tryz.laysItoa_ren :=
  { mixed := by kernel_rfl, f129 := Eq.trans Tryz.func105 (congrArg some (Eq.refl (Body.n129 Tryz.laysItoa_ren))),
    f171 := Eq.trans Tryz.func112 (congrArg some (Eq.refl (Body.n171 Tryz.laysItoa_ren))),
    f243 := Eq.trans Tryz.func123 (congrArg some (Eq.refl (Body.n243 Tryz.laysItoa_ren))),
    f246 := Eq.trans Tryz.func128 (congrArg some (Eq.refl (Body.n246 Tryz.laysItoa_ren))),
    f283 := Eq.trans Tryz.func135 (congrArg some (Eq.refl (Body.n283 Tryz.laysItoa_ren))),
    f284 := Eq.trans Tryz.func136 (congrArg some (Eq.refl (Body.n284 Tryz.laysItoa_ren))),
    f285 := Eq.trans Tryz.func137 (congrArg some (Eq.refl (Body.n285 Tryz.laysItoa_ren))),
    f286 := Eq.trans Tryz.func138 (congrArg some (Eq.refl (Body.n286 Tryz.laysItoa_ren))),
    f317 := Eq.trans Tryz.func146 (congrArg some (Eq.refl (Body.n317 Tryz.laysItoa_ren))),
    f318 := Eq.trans Tryz.func147 (congrArg some (Eq.refl (Body.n318 Tryz.laysItoa_ren))),
    f319 := Eq.trans Tryz.func148 (congrArg some (Eq.refl (Body.n319 Tryz.laysItoa_ren))),
    f320 := Eq.trans Tryz.func149 (congrArg some (Eq.refl (Body.n320 Tryz.laysItoa_ren))),
    f337 := Eq.trans Tryz.func154 (congrArg some (Eq.refl (Body.n337 Tryz.laysItoa_ren))),
    f338 := Eq.trans Tryz.func155 (congrArg some (Eq.refl (Body.n338 Tryz.laysItoa_ren))), t0 := Tryz.underlying0,
    a0 := Tryz.isAgg0, z0 := Tryz.sizeOf0, v0 := Tryz.zeroValue0, t2 := Tryz.underlying2, a2 := Tryz.isAgg2,
    z2 := Tryz.sizeOf2, v2 := Tryz.zeroValue2, t3 := Tryz.underlying3, a3 := Tryz.isAgg3, z3 := Tryz.sizeOf3,
    v3 := Tryz.zeroValue3, t4 := Tryz.underlying4, a4 := Tryz.isAgg4, z4 := Tryz.sizeOf4, v4 := Tryz.zeroValue4,
    t5 := Tryz.underlying5, a5 := Tryz.isAgg5, z5 := Tryz.sizeOf5, v5 := Tryz.zeroValue5, t9 := Tryz.underlying9,
    a9 := Tryz.isAgg9, z9 := Tryz.sizeOf9, v9 := Tryz.zeroValue9, t20 := Tryz.underlying20, a20 := Tryz.isAgg20,
    z20 := Tryz.sizeOf20, v20 := Tryz.zeroValue20, t37 := Tryz.underlying90, a37 := Tryz.isAgg90, z37 := Tryz.sizeOf90,
    v37 := Tryz.zeroValue90, t46 := Tryz.underlying84, a46 := Tryz.isAgg84, z46 := Tryz.sizeOf84, v46 := Tryz.zeroValue84,
    t51 := Tryz.underlying113, a51 := Tryz.isAgg113, z51 := Tryz.sizeOf113, v51 := Tryz.zeroValue113,
    t53 := Tryz.underlying115, a53 := Tryz.isAgg115, z53 := Tryz.sizeOf115, v53 := Tryz.zeroValue115,
    t171 := Tryz.underlying143, a171 := Tryz.isAgg143, z171 := Tryz.sizeOf143, v171 := Tryz.zeroValue143,
    t173 := Tryz.underlying145, a173 := Tryz.isAgg145, z173 := Tryz.sizeOf145, v173 := Tryz.zeroValue145,
    t212 := Tryz.underlying155, a212 := Tryz.isAgg155, z212 := Tryz.sizeOf155, v212 := Tryz.zeroValue155,
    t213 := Tryz.underlying156, a213 := Tryz.isAgg156, z213 := Tryz.sizeOf156, t232 := Tryz.underlying163,
    a232 := Tryz.isAgg163, z232 := Tryz.sizeOf163, v232 := Tryz.zeroValue163, t233 := Tryz.underlying164,
    a233 := Tryz.isAgg164, z233 := Tryz.sizeOf164, v233 := Tryz.zeroValue164,
    g17 := by kernel_rfl, g18 := by kernel_rfl,
    g19 := by kernel_rfl, i0 := by kernel_rfl,
    i2 := by kernel_rfl,
    i3 := by kernel_rfl, i4 := by kernel_rfl,
    i5 := by kernel_rfl,
    i9 := by kernel_rfl, i20 := by kernel_rfl,
    i37 := by kernel_rfl,
    i46 := by kernel_rfl,
    i51 := by kernel_rfl,
    i53 := by kernel_rfl,
    i171 :=
      Eq.refl
        (some
          (some
              (Value.agg
                #[Value.int IntKind.u8 0, Value.int IntKind.u8 0, Value.int IntKind.u8 0, Value.int IntKind.u8 0,
                  Value.int IntKind.u8 0, Value.int IntKind.u8 0, Value.int IntKind.u8 0, Value.int IntKind.u8 0,
                  Value.int IntKind.u8 0, Value.int IntKind.u8 0, Value.int IntKind.u8 0, Value.int IntKind.u8 0,
                  Value.int IntKind.u8 0, Value.int IntKind.u8 0, Value.int IntKind.u8 0, Value.int IntKind.u8 0,
                  Value.int IntKind.u8 0, Value.int IntKind.u8 0, Value.int IntKind.u8 0, Value.int IntKind.u8 0,
                  Value.int IntKind.u8 0, Value.int IntKind.u8 0, Value.int IntKind.u8 0, Value.int IntKind.u8 0]),
            24, 24)),
    i173 := by kernel_rfl,
    i212 :=
      Eq.refl
        (some
          (some
              (Value.agg
                #[Value.int IntKind.u64 0, Value.int IntKind.u64 0, Value.int IntKind.u64 0, Value.int IntKind.u64 0,
                  Value.int IntKind.u64 0, Value.int IntKind.u64 0, Value.int IntKind.u64 0, Value.int IntKind.u64 0,
                  Value.int IntKind.u64 0, Value.int IntKind.u64 0, Value.int IntKind.u64 0, Value.int IntKind.u64 0,
                  Value.int IntKind.u64 0, Value.int IntKind.u64 0, Value.int IntKind.u64 0, Value.int IntKind.u64 0,
                  Value.int IntKind.u64 0, Value.int IntKind.u64 0, Value.int IntKind.u64 0, Value.int IntKind.u64 0]),
            20, 160)),
    i232 :=
      Eq.refl
        (some
          (some
              (Value.agg
                #[Value.int IntKind.u8 0, Value.int IntKind.u8 0, Value.int IntKind.u8 0, Value.int IntKind.u8 0,
                  Value.int IntKind.u8 0, Value.int IntKind.u8 0, Value.int IntKind.u8 0, Value.int IntKind.u8 0,
                  Value.int IntKind.u8 0, Value.int IntKind.u8 0, Value.int IntKind.u8 0, Value.int IntKind.u8 0,
                  Value.int IntKind.u8 0, Value.int IntKind.u8 0, Value.int IntKind.u8 0, Value.int IntKind.u8 0,
                  Value.int IntKind.u8 0, Value.int IntKind.u8 0, Value.int IntKind.u8 0, Value.int IntKind.u8 0,
                  Value.int IntKind.u8 0, Value.int IntKind.u8 0, Value.int IntKind.u8 0, Value.int IntKind.u8 0,
                  Value.int IntKind.u8 0, Value.int IntKind.u8 0, Value.int IntKind.u8 0, Value.int IntKind.u8 0,
                  Value.int IntKind.u8 0, Value.int IntKind.u8 0, Value.int IntKind.u8 0, Value.int IntKind.u8 0]),
            32, 32)),
    i233 :=
      Eq.refl
        (some
          (some
              (Value.agg
                (let y :=
                    let y :=
                      let y :=
                        let y :=
                          [Value.int IntKind.u8 0, Value.int IntKind.u8 0, Value.int IntKind.u8 0,
                            Value.int IntKind.u8 0];
                        Value.int IntKind.u8 0 ::
                          Value.int IntKind.u8 0 :: Value.int IntKind.u8 0 :: Value.int IntKind.u8 0 :: y;
                      let y :=
                        Value.int IntKind.u8 0 ::
                          Value.int IntKind.u8 0 :: Value.int IntKind.u8 0 :: Value.int IntKind.u8 0 :: y;
                      Value.int IntKind.u8 0 ::
                        Value.int IntKind.u8 0 :: Value.int IntKind.u8 0 :: Value.int IntKind.u8 0 :: y;
                    let y :=
                      let y :=
                        Value.int IntKind.u8 0 ::
                          Value.int IntKind.u8 0 :: Value.int IntKind.u8 0 :: Value.int IntKind.u8 0 :: y;
                      Value.int IntKind.u8 0 ::
                        Value.int IntKind.u8 0 :: Value.int IntKind.u8 0 :: Value.int IntKind.u8 0 :: y;
                    let y :=
                      Value.int IntKind.u8 0 ::
                        Value.int IntKind.u8 0 :: Value.int IntKind.u8 0 :: Value.int IntKind.u8 0 :: y;
                    Value.int IntKind.u8 0 ::
                      Value.int IntKind.u8 0 :: Value.int IntKind.u8 0 :: Value.int IntKind.u8 0 :: y;
                  let y :=
                    let y :=
                      let y :=
                        Value.int IntKind.u8 0 ::
                          Value.int IntKind.u8 0 :: Value.int IntKind.u8 0 :: Value.int IntKind.u8 0 :: y;
                      Value.int IntKind.u8 0 ::
                        Value.int IntKind.u8 0 :: Value.int IntKind.u8 0 :: Value.int IntKind.u8 0 :: y;
                    let y :=
                      Value.int IntKind.u8 0 ::
                        Value.int IntKind.u8 0 :: Value.int IntKind.u8 0 :: Value.int IntKind.u8 0 :: y;
                    Value.int IntKind.u8 0 ::
                      Value.int IntKind.u8 0 :: Value.int IntKind.u8 0 :: Value.int IntKind.u8 0 :: y;
                  let y :=
                    let y :=
                      Value.int IntKind.u8 0 ::
                        Value.int IntKind.u8 0 :: Value.int IntKind.u8 0 :: Value.int IntKind.u8 0 :: y;
                    Value.int IntKind.u8 0 ::
                      Value.int IntKind.u8 0 :: Value.int IntKind.u8 0 :: Value.int IntKind.u8 0 :: y;
                  let y :=
                    Value.int IntKind.u8 0 ::
                      Value.int IntKind.u8 0 :: Value.int IntKind.u8 0 :: Value.int IntKind.u8 0 :: y;
                  Value.int IntKind.u8 0 ::
                    Value.int IntKind.u8 0 :: Value.int IntKind.u8 0 :: Value.int IntKind.u8 0 :: y).toArray),
            64, 64)),
    m17 := by kernel_rfl, m18 := by kernel_rfl,
    m19 := by kernel_rfl }
def Tryz.laysAtoi_ren : Go.Shelf.Ren :=
  {
    f := fun x =>
      match x with
      | 172 => 122
      | 244 => 126
      | 245 => 127
      | 247 => 130
      | 279 => 131
      | 280 => 132
      | 281 => 133
      | 282 => 134
      | 287 => 143
      | 316 => 144
      | 171 => 112
      | 205 => 145
      | 321 => 152
      | 322 => 153
      | 243 => 123
      | 246 => 128
      | 283 => 135
      | 284 => 136
      | 285 => 137
      | 286 => 138
      | 129 => 105
      | 317 => 146
      | 318 => 147
      | 319 => 148
      | 320 => 149
      | 337 => 154
      | 338 => 155
      | n => n,
    t := fun x =>
      match x with
      | 9 => 9
      | 3 => 3
      | 75 => 95
      | 76 => 96
      | 4 => 4
      | 5 => 5
      | 167 => 137
      | 37 => 90
      | 0 => 0
      | 85 => 138
      | 2 => 2
      | 168 => 140
      | 53 => 115
      | 175 => 149
      | 46 => 84
      | 210 => 152
      | 127 => 120
      | 145 => 162
      | 143 => 160
      | 21 => 21
      | 171 => 143
      | 173 => 145
      | 212 => 155
      | 51 => 113
      | 20 => 20
      | 213 => 156
      | 232 => 163
      | 233 => 164
      | 80 => 99
      | n => n,
    g := fun x =>
      match x with
      | 15 => 1
      | 16 => 2
      | 17 => 3
      | 18 => 4
      | 19 => 5
      | n => n }
theorem Tryz.laysAtoi : LaysC.n172 Tryz.prog Tryz.laysAtoi_ren :=
  { mixed := by kernel_rfl, f129 := Eq.trans Tryz.func105 (congrArg some (Eq.refl (Body.n129 Tryz.laysAtoi_ren))),
    f171 := Eq.trans Tryz.func112 (congrArg some (Eq.refl (Body.n171 Tryz.laysAtoi_ren))),
    f172 := Eq.trans Tryz.func122 (congrArg some (Eq.refl (Body.n172 Tryz.laysAtoi_ren))),
    f205 := Eq.trans Tryz.func145 (congrArg some (Eq.refl (Body.n205 Tryz.laysAtoi_ren))),
    f243 := Eq.trans Tryz.func123 (congrArg some (Eq.refl (Body.n243 Tryz.laysAtoi_ren))),
    f244 := Eq.trans Tryz.func126 (congrArg some (Eq.refl (Body.n244 Tryz.laysAtoi_ren))),
    f245 := Eq.trans Tryz.func127 (congrArg some (Eq.refl (Body.n245 Tryz.laysAtoi_ren))),
    f246 := Eq.trans Tryz.func128 (congrArg some (Eq.refl (Body.n246 Tryz.laysAtoi_ren))),
    f247 := Eq.trans Tryz.func130 (congrArg some (Eq.refl (Body.n247 Tryz.laysAtoi_ren))),
    f279 := Eq.trans Tryz.func131 (congrArg some (Eq.refl (Body.n279 Tryz.laysAtoi_ren))),
    f280 := Eq.trans Tryz.func132 (congrArg some (Eq.refl (Body.n280 Tryz.laysAtoi_ren))),
    f281 := Eq.trans Tryz.func133 (congrArg some (Eq.refl (Body.n281 Tryz.laysAtoi_ren))),
    f282 := Eq.trans Tryz.func134 (congrArg some (Eq.refl (Body.n282 Tryz.laysAtoi_ren))),
    f283 := Eq.trans Tryz.func135 (congrArg some (Eq.refl (Body.n283 Tryz.laysAtoi_ren))),
    f284 := Eq.trans Tryz.func136 (congrArg some (Eq.refl (Body.n284 Tryz.laysAtoi_ren))),
    f285 := Eq.trans Tryz.func137 (congrArg some (Eq.refl (Body.n285 Tryz.laysAtoi_ren))),
    f286 := Eq.trans Tryz.func138 (congrArg some (Eq.refl (Body.n286 Tryz.laysAtoi_ren))),
    f287 := Eq.trans Tryz.func143 (congrArg some (Eq.refl (Body.n287 Tryz.laysAtoi_ren))),
    f316 := Eq.trans Tryz.func144 (congrArg some (Eq.refl (Body.n316 Tryz.laysAtoi_ren))),
    f317 := Eq.trans Tryz.func146 (congrArg some (Eq.refl (Body.n317 Tryz.laysAtoi_ren))),
    f318 := Eq.trans Tryz.func147 (congrArg some (Eq.refl (Body.n318 Tryz.laysAtoi_ren))),
    f319 := Eq.trans Tryz.func148 (congrArg some (Eq.refl (Body.n319 Tryz.laysAtoi_ren))),
    f320 := Eq.trans Tryz.func149 (congrArg some (Eq.refl (Body.n320 Tryz.laysAtoi_ren))),
    f321 := Eq.trans Tryz.func152 (congrArg some (Eq.refl (Body.n321 Tryz.laysAtoi_ren))),
    f322 := Eq.trans Tryz.func153 (congrArg some (Eq.refl (Body.n322 Tryz.laysAtoi_ren))),
    f337 := Eq.trans Tryz.func154 (congrArg some (Eq.refl (Body.n337 Tryz.laysAtoi_ren))),
    f338 := Eq.trans Tryz.func155 (congrArg some (Eq.refl (Body.n338 Tryz.laysAtoi_ren))), t0 := Tryz.underlying0,
    a0 := Tryz.isAgg0, z0 := Tryz.sizeOf0, v0 := Tryz.zeroValue0, t2 := Tryz.underlying2, a2 := Tryz.isAgg2,
    z2 := Tryz.sizeOf2, v2 := Tryz.zeroValue2, t3 := Tryz.underlying3, a3 := Tryz.isAgg3, z3 := Tryz.sizeOf3,
    v3 := Tryz.zeroValue3, t4 := Tryz.underlying4, a4 := Tryz.isAgg4, z4 := Tryz.sizeOf4, v4 := Tryz.zeroValue4,
    t5 := Tryz.underlying5, a5 := Tryz.isAgg5, z5 := Tryz.sizeOf5, v5 := Tryz.zeroValue5, t9 := Tryz.underlying9,
    a9 := Tryz.isAgg9, z9 := Tryz.sizeOf9, v9 := Tryz.zeroValue9, t20 := Tryz.underlying20, a20 := Tryz.isAgg20,
    z20 := Tryz.sizeOf20, v20 := Tryz.zeroValue20, t21 := Tryz.underlying21, a21 := Tryz.isAgg21, z21 := Tryz.sizeOf21,
    v21 := Tryz.zeroValue21, t37 := Tryz.underlying90, a37 := Tryz.isAgg90, z37 := Tryz.sizeOf90, v37 := Tryz.zeroValue90,
    t46 := Tryz.underlying84, a46 := Tryz.isAgg84, z46 := Tryz.sizeOf84, v46 := Tryz.zeroValue84,
    t51 := Tryz.underlying113, a51 := Tryz.isAgg113, z51 := Tryz.sizeOf113, v51 := Tryz.zeroValue113,
    t53 := Tryz.underlying115, a53 := Tryz.isAgg115, z53 := Tryz.sizeOf115, v53 := Tryz.zeroValue115,
    t75 := Tryz.underlying95, a75 := Tryz.isAgg95, z75 := Tryz.sizeOf95, v75 := Tryz.zeroValue95,
    t76 := Tryz.underlying96, a76 := Tryz.isAgg96, z76 := Tryz.sizeOf96, v76 := Tryz.zeroValue96,
    t85 := Tryz.underlying138, a85 := Tryz.isAgg138, z85 := Tryz.sizeOf138, v85 := Tryz.zeroValue138,
    t127 := Tryz.underlying120, a127 := Tryz.isAgg120, z127 := Tryz.sizeOf120, v127 := Tryz.zeroValue120,
    t143 := Tryz.underlying160, a143 := Tryz.isAgg160, z143 := Tryz.sizeOf160, v143 := Tryz.zeroValue160,
    t145 := Tryz.underlying162, a145 := Tryz.isAgg162, z145 := Tryz.sizeOf162, v145 := Tryz.zeroValue162,
    t167 := Tryz.underlying137, a167 := Tryz.isAgg137, z167 := Tryz.sizeOf137, v167 := Tryz.zeroValue137,
    t168 := Tryz.underlying140, a168 := Tryz.isAgg140, z168 := Tryz.sizeOf140, v168 := Tryz.zeroValue140,
    t171 := Tryz.underlying143, a171 := Tryz.isAgg143, z171 := Tryz.sizeOf143, v171 := Tryz.zeroValue143,
    t173 := Tryz.underlying145, a173 := Tryz.isAgg145, z173 := Tryz.sizeOf145, v173 := Tryz.zeroValue145,
    t175 := Tryz.underlying149, a175 := Tryz.isAgg149, z175 := Tryz.sizeOf149, v175 := Tryz.zeroValue149,
    t210 := Tryz.underlying152, a210 := Tryz.isAgg152, z210 := Tryz.sizeOf152, v210 := Tryz.zeroValue152,
    t212 := Tryz.underlying155, a212 := Tryz.isAgg155, z212 := Tryz.sizeOf155, v212 := Tryz.zeroValue155,
    t213 := Tryz.underlying156, a213 := Tryz.isAgg156, z213 := Tryz.sizeOf156, t232 := Tryz.underlying163,
    a232 := Tryz.isAgg163, z232 := Tryz.sizeOf163, v232 := Tryz.zeroValue163, t233 := Tryz.underlying164,
    a233 := Tryz.isAgg164, z233 := Tryz.sizeOf164, v233 := Tryz.zeroValue164,
    g15 := by kernel_rfl, g16 := by kernel_rfl,
    g17 := by kernel_rfl, g18 := by kernel_rfl,
    g19 := by kernel_rfl, t80 := Tryz.underlying99, a80 := Tryz.isAgg99, z80 := Tryz.sizeOf99,
    v80 := Tryz.zeroValue99, i0 := by kernel_rfl,
    i2 := by kernel_rfl,
    i3 := by kernel_rfl, i4 := by kernel_rfl,
    i5 := by kernel_rfl,
    i9 := by kernel_rfl, i20 := by kernel_rfl,
    i21 := by kernel_rfl,
    i37 := by kernel_rfl,
    i46 := by kernel_rfl,
    i51 := by kernel_rfl,
    i53 := by kernel_rfl, i75 := by kernel_rfl,
    i76 := by kernel_rfl,
    i80 := by kernel_rfl,
    i85 := by kernel_rfl,
    i127 := by kernel_rfl, i143 := by kernel_rfl,
    i145 := by kernel_rfl,
    i167 := by kernel_rfl,
    i168 := by kernel_rfl,
    i171 :=
      Eq.refl
        (some
          (some
              (Value.agg
                #[Value.int IntKind.u8 0, Value.int IntKind.u8 0, Value.int IntKind.u8 0, Value.int IntKind.u8 0,
                  Value.int IntKind.u8 0, Value.int IntKind.u8 0, Value.int IntKind.u8 0, Value.int IntKind.u8 0,
                  Value.int IntKind.u8 0, Value.int IntKind.u8 0, Value.int IntKind.u8 0, Value.int IntKind.u8 0,
                  Value.int IntKind.u8 0, Value.int IntKind.u8 0, Value.int IntKind.u8 0, Value.int IntKind.u8 0,
                  Value.int IntKind.u8 0, Value.int IntKind.u8 0, Value.int IntKind.u8 0, Value.int IntKind.u8 0,
                  Value.int IntKind.u8 0, Value.int IntKind.u8 0, Value.int IntKind.u8 0, Value.int IntKind.u8 0]),
            24, 24)),
    i173 := by kernel_rfl,
    i175 := by kernel_rfl,
    i210 :=
      Eq.refl
        (some (some (Value.agg #[Value.string { data := #[] }, Value.string { data := #[] }, Value.nilIface]), 3, 48)),
    i212 :=
      Eq.refl
        (some
          (some
              (Value.agg
                #[Value.int IntKind.u64 0, Value.int IntKind.u64 0, Value.int IntKind.u64 0, Value.int IntKind.u64 0,
                  Value.int IntKind.u64 0, Value.int IntKind.u64 0, Value.int IntKind.u64 0, Value.int IntKind.u64 0,
                  Value.int IntKind.u64 0, Value.int IntKind.u64 0, Value.int IntKind.u64 0, Value.int IntKind.u64 0,
                  Value.int IntKind.u64 0, Value.int IntKind.u64 0, Value.int IntKind.u64 0, Value.int IntKind.u64 0,
                  Value.int IntKind.u64 0, Value.int IntKind.u64 0, Value.int IntKind.u64 0, Value.int IntKind.u64 0]),
            20, 160)),
    i232 :=
      Eq.refl
        (some
          (some
              (Value.agg
                #[Value.int IntKind.u8 0, Value.int IntKind.u8 0, Value.int IntKind.u8 0, Value.int IntKind.u8 0,
                  Value.int IntKind.u8 0, Value.int IntKind.u8 0, Value.int IntKind.u8 0, Value.int IntKind.u8 0,
                  Value.int IntKind.u8 0, Value.int IntKind.u8 0, Value.int IntKind.u8 0, Value.int IntKind.u8 0,
                  Value.int IntKind.u8 0, Value.int IntKind.u8 0, Value.int IntKind.u8 0, Value.int IntKind.u8 0,
                  Value.int IntKind.u8 0, Value.int IntKind.u8 0, Value.int IntKind.u8 0, Value.int IntKind.u8 0,
                  Value.int IntKind.u8 0, Value.int IntKind.u8 0, Value.int IntKind.u8 0, Value.int IntKind.u8 0,
                  Value.int IntKind.u8 0, Value.int IntKind.u8 0, Value.int IntKind.u8 0, Value.int IntKind.u8 0,
                  Value.int IntKind.u8 0, Value.int IntKind.u8 0, Value.int IntKind.u8 0, Value.int IntKind.u8 0]),
            32, 32)),
    i233 :=
      Eq.refl
        (some
          (some
              (Value.agg
                (let y :=
                    let y :=
                      let y :=
                        let y :=
                          [Value.int IntKind.u8 0, Value.int IntKind.u8 0, Value.int IntKind.u8 0,
                            Value.int IntKind.u8 0];
                        Value.int IntKind.u8 0 ::
                          Value.int IntKind.u8 0 :: Value.int IntKind.u8 0 :: Value.int IntKind.u8 0 :: y;
                      let y :=
                        Value.int IntKind.u8 0 ::
                          Value.int IntKind.u8 0 :: Value.int IntKind.u8 0 :: Value.int IntKind.u8 0 :: y;
                      Value.int IntKind.u8 0 ::
                        Value.int IntKind.u8 0 :: Value.int IntKind.u8 0 :: Value.int IntKind.u8 0 :: y;
                    let y :=
                      let y :=
                        Value.int IntKind.u8 0 ::
                          Value.int IntKind.u8 0 :: Value.int IntKind.u8 0 :: Value.int IntKind.u8 0 :: y;
                      Value.int IntKind.u8 0 ::
                        Value.int IntKind.u8 0 :: Value.int IntKind.u8 0 :: Value.int IntKind.u8 0 :: y;
                    let y :=
                      Value.int IntKind.u8 0 ::
                        Value.int IntKind.u8 0 :: Value.int IntKind.u8 0 :: Value.int IntKind.u8 0 :: y;
                    Value.int IntKind.u8 0 ::
                      Value.int IntKind.u8 0 :: Value.int IntKind.u8 0 :: Value.int IntKind.u8 0 :: y;
                  let y :=
                    let y :=
                      let y :=
                        Value.int IntKind.u8 0 ::
                          Value.int IntKind.u8 0 :: Value.int IntKind.u8 0 :: Value.int IntKind.u8 0 :: y;
                      Value.int IntKind.u8 0 ::
                        Value.int IntKind.u8 0 :: Value.int IntKind.u8 0 :: Value.int IntKind.u8 0 :: y;
                    let y :=
                      Value.int IntKind.u8 0 ::
                        Value.int IntKind.u8 0 :: Value.int IntKind.u8 0 :: Value.int IntKind.u8 0 :: y;
                    Value.int IntKind.u8 0 ::
                      Value.int IntKind.u8 0 :: Value.int IntKind.u8 0 :: Value.int IntKind.u8 0 :: y;
                  let y :=
                    let y :=
                      Value.int IntKind.u8 0 ::
                        Value.int IntKind.u8 0 :: Value.int IntKind.u8 0 :: Value.int IntKind.u8 0 :: y;
                    Value.int IntKind.u8 0 ::
                      Value.int IntKind.u8 0 :: Value.int IntKind.u8 0 :: Value.int IntKind.u8 0 :: y;
                  let y :=
                    Value.int IntKind.u8 0 ::
                      Value.int IntKind.u8 0 :: Value.int IntKind.u8 0 :: Value.int IntKind.u8 0 :: y;
                  Value.int IntKind.u8 0 ::
                    Value.int IntKind.u8 0 :: Value.int IntKind.u8 0 :: Value.int IntKind.u8 0 :: y).toArray),
            64, 64)),
    m15 := by kernel_rfl, m16 := by kernel_rfl,
    m17 := by kernel_rfl, m18 := by kernel_rfl,
    m19 := by kernel_rfl, c0 := by kernel_rfl, c2 := by kernel_rfl,
    c3 := by kernel_rfl, c4 := by kernel_rfl, c5 := by kernel_rfl, c9 := by kernel_rfl,
    c20 := by kernel_rfl, c21 := by kernel_rfl, c37 := by kernel_rfl, c46 := by kernel_rfl,
    c51 := by kernel_rfl, c53 := by kernel_rfl, c75 := by kernel_rfl, c76 := by kernel_rfl,
    c80 := by kernel_rfl, c85 := by kernel_rfl, c127 := by kernel_rfl, c143 := by kernel_rfl,
    c145 := by kernel_rfl, c167 := by kernel_rfl, c168 := by kernel_rfl, c171 := by kernel_rfl,
    c173 := by kernel_rfl, c175 := by kernel_rfl, c210 := by kernel_rfl, c212 := by kernel_rfl,
    c213 := by kernel_rfl, c232 := by kernel_rfl, c233 := by kernel_rfl }
def Tryz.laysString_ren : Go.Shelf.Ren :=
  {
    f := fun x =>
      match x with
      | 169 => 83
      | n => n,
    t := fun x =>
      match x with
      | 70 => 89
      | 9 => 9
      | 0 => 0
      | 72 => 92
      | 37 => 90
      | 127 => 120
      | 3 => 3
      | 5 => 5
      | n => n,
    g := fun x =>
      have n := x;
      n }
theorem Tryz.laysString : Lays.n169 Tryz.prog Tryz.laysString_ren :=
  { mixed := by kernel_rfl, f169 := Eq.trans Tryz.func83 (congrArg some (Eq.refl (Body.n169 Tryz.laysString_ren))),
    t0 := Tryz.underlying0, a0 := Tryz.isAgg0, z0 := Tryz.sizeOf0, v0 := Tryz.zeroValue0, t3 := Tryz.underlying3,
    a3 := Tryz.isAgg3, z3 := Tryz.sizeOf3, v3 := Tryz.zeroValue3, t9 := Tryz.underlying9, a9 := Tryz.isAgg9,
    z9 := Tryz.sizeOf9, v9 := Tryz.zeroValue9, t37 := Tryz.underlying90, a37 := Tryz.isAgg90, z37 := Tryz.sizeOf90,
    v37 := Tryz.zeroValue90, t70 := Tryz.underlying89, a70 := Tryz.isAgg89, z70 := Tryz.sizeOf89, v70 := Tryz.zeroValue89,
    t72 := Tryz.underlying92, a72 := Tryz.isAgg92, z72 := Tryz.sizeOf92, v72 := Tryz.zeroValue92,
    t127 := Tryz.underlying120, a127 := Tryz.isAgg120, z127 := Tryz.sizeOf120, v127 := Tryz.zeroValue120 }
def Tryz.laysGrow_ren : Go.Shelf.Ren :=
  {
    f := fun x =>
      match x with
      | 241 => 110
      | 277 => 120
      | n => n,
    t := fun x =>
      match x with
      | 70 => 89
      | 3 => 3
      | 0 => 0
      | 72 => 92
      | 37 => 90
      | 5 => 5
      | n => n,
    g := fun x =>
      have n := x;
      n }
theorem Tryz.laysGrow : Lays.n241 Tryz.prog Tryz.laysGrow_ren :=
  { mixed := by kernel_rfl, f241 := Eq.trans Tryz.func110 (congrArg some (Eq.refl (Body.n241 Tryz.laysGrow_ren))),
    f277 := Eq.trans Tryz.func120 (congrArg some (Eq.refl (Body.n277 Tryz.laysGrow_ren))), t0 := Tryz.underlying0,
    a0 := Tryz.isAgg0, z0 := Tryz.sizeOf0, v0 := Tryz.zeroValue0, t3 := Tryz.underlying3, a3 := Tryz.isAgg3,
    z3 := Tryz.sizeOf3, v3 := Tryz.zeroValue3, t37 := Tryz.underlying90, a37 := Tryz.isAgg90, z37 := Tryz.sizeOf90,
    v37 := Tryz.zeroValue90, t70 := Tryz.underlying89, a70 := Tryz.isAgg89, z70 := Tryz.sizeOf89, v70 := Tryz.zeroValue89,
    t72 := Tryz.underlying92, a72 := Tryz.isAgg92, z72 := Tryz.sizeOf92, v72 := Tryz.zeroValue92 }
def Tryz.laysLen_ren : Go.Shelf.Ren :=
  {
    f := fun x =>
      match x with
      | 170 => 82
      | n => n,
    t := fun x =>
      match x with
      | 70 => 89
      | 3 => 3
      | 0 => 0
      | 72 => 92
      | 37 => 90
      | 5 => 5
      | n => n,
    g := fun x =>
      have n := x;
      n }
theorem Tryz.laysLen : Lays.n170 Tryz.prog Tryz.laysLen_ren :=
  { mixed := by kernel_rfl, f170 := Eq.trans Tryz.func82 (congrArg some (Eq.refl (Body.n170 Tryz.laysLen_ren))),
    t0 := Tryz.underlying0, a0 := Tryz.isAgg0, z0 := Tryz.sizeOf0, v0 := Tryz.zeroValue0, t3 := Tryz.underlying3,
    a3 := Tryz.isAgg3, z3 := Tryz.sizeOf3, v3 := Tryz.zeroValue3, t37 := Tryz.underlying90, a37 := Tryz.isAgg90,
    z37 := Tryz.sizeOf90, v37 := Tryz.zeroValue90, t70 := Tryz.underlying89, a70 := Tryz.isAgg89, z70 := Tryz.sizeOf89,
    v70 := Tryz.zeroValue89, t72 := Tryz.underlying92, a72 := Tryz.isAgg92, z72 := Tryz.sizeOf92,
    v72 := Tryz.zeroValue92 }
end Go.Proofs


set_option maxRecDepth 100000
namespace Go.Proofs
open Go.Shelf Go.RowKit
theorem ri_cut (s sep : ByteArray) (m : Int) (w : World) (hs : s.size < 4294967281) (hm : w.cell? ⟨0, 0, none⟩ = some (.int .i64 m)) :
    Calls Tryz.prog 121 #[.string s, .string sep] w fun e w' => e = .returned (.tuple #[.string ⟨(Lib.cut s.data.toList sep.data.toList).1.toArray⟩, .string ⟨(Lib.cut s.data.toList sep.data.toList).2.1.toArray⟩, .bool (Lib.cut s.data.toList sep.data.toList).2.2]) ∧ ∃ n, w' = w.drewN n := Any.strings_Cut Tryz.laysCut s sep m w hs hm
theorem ri_ok (s : ByteArray) (hmax : s.size ≤ 9223372036854775806) (v : Int) (h : Lib.atoiAll s.data.toList = .ok v) (w : World) :
    Calls Tryz.prog 122 #[.string s] w fun e w' => e = .returned (.tuple #[.int .i64 v, .nilIface]) ∧ (w' = w ∨ ∃ t, w' = Lib.bytesWorld w 5 t) := Any.strconv_Atoi_ok Tryz.laysAtoi s hmax v h w
theorem ri_itoa (n : Int) (h0 : -9223372036854775808 ≤ n) (h1 : n ≤ 9223372036854775807) (w : World) (htab : Lib.TabIs Tryz.prog w "internal/strconv.uint64pow10" .u64 Lib.pow10Tab) :
    Calls Tryz.prog 112 #[.int .i64 n] w fun e w' => e = .returned (.string ⟨(Lib.itoa n).toArray⟩) ∧ ∃ k os, w' = Sort.grow (w.drewN k) os := Any.strconv_Itoa Tryz.laysItoa n h0 h1 w htab
theorem ri_none (s : ByteArray) (m : Int) (w : World) (hm : w.cell? ⟨0, 0, none⟩ = some (.int .i64 m)) (x y : List UInt8) (hc : Lib.cut (s.data.toList.take (min (s.size : Int) 21).toNat) [59] = (x, y, false)) :
    Calls Tryz.prog 111 #[.string s] w fun e w' => e = .returned (.tuple #[.int .i64 0, .string ⟨#[]⟩, .bool false]) ∧ ∃ n, w' = w.drewN n := by
  go_enter Tryz.func111, Tryz.ntmps111
  go_wp2_with (go_at_call 121; refine (ri_cut _ _ m _ ?_ hm).mono ?_)
  · simp only [ByteArray.size_extract]; omega
  rintro e w' rfl n rfl
  go_wp2
  go_ret3
  exact ⟨rfl, _, rfl⟩
theorem ri_yes (s : ByteArray) (m : Int) (w : World) (hm : w.cell? ⟨0, 0, none⟩ = some (.int .i64 m)) (x y : List UInt8) (hc : Lib.cut (s.data.toList.take (min (s.size : Int) 21).toNat) [59] = (x, y, true)) (hx : x.length ≤ 20) (hxs : x.length + 1 ≤ s.size) (v : Int) (hv : Lib.atoiAll x = .ok v)
    (h0 : -9223372036854775808 ≤ v) (h1 : v ≤ 9223372036854775807) (htab : ∀ w', Below w.heap.size w w' → Lib.TabIs Tryz.prog w' "internal/strconv.uint64pow10" .u64 Lib.pow10Tab) :
    Calls Tryz.prog 111 #[.string s] w fun e w' => e = .returned (if Lib.itoa v = x then .tuple #[.int .i64 v, .string ⟨(s.data.toList.drop (x.length + 1)).toArray⟩, .bool true] else .tuple #[.int .i64 0, .string ⟨#[]⟩, .bool false]) ∧ Below w.heap.size w w' := by
  go_enter Tryz.func111, Tryz.ntmps111
  go_wp2_with (go_at_call 121; refine (ri_cut _ _ m _ ?_ hm).mono ?_)
  · simp only [ByteArray.size_extract]; omega
  rintro e w' rfl n rfl
  go_wp2_with (go_at_call 122; refine (ri_ok _ ?_ v hv _).mono ?_)
  · show x.toArray.size ≤ _
    simp; omega
  rintro e w' ⟨rfl, hw⟩
  have hwb : Below w.heap.size w w' := by
    rcases hw with rfl | ⟨t, rfl⟩
    · exact ⟨rfl, rfl, rfl, Nat.le_refl _, fun _ _ => rfl⟩
    · have h9 := Lib.bytesWorld_below (w.drewN n) 5 t
      exact Below.trans (show Below w.heap.size w (w.drewN n) from ⟨rfl, rfl, rfl, Nat.le_refl _, fun _ _ => rfl⟩) h9
  go_wp2_with (go_at_call 112; refine (ri_itoa v h0 h1 _ ?_).mono ?_)
  · exact htab _ hwb
  rintro e w'' ⟨rfl, k, os, rfl⟩
  have hb2 : Below w.heap.size w (Sort.grow (w'.drewN k) os) := hwb.trans ⟨rfl, rfl, rfl, by show w'.heap.size ≤ (w'.heap ++ os).size; rw [Array.size_append]; omega, fun b hb => by
    show (w'.heap ++ os)[b]? = _
    exact Array.getElem?_append_left (Nat.lt_of_lt_of_le hb hwb.size)⟩
  generalize Sort.grow (w'.drewN k) os = w2 at hb2
  have hsz : (⟨x.toArray⟩ : ByteArray).size = x.length := by show x.toArray.size = _; simp
  have hwr : IntKind.i64.wrap ((x.length : Int) + 1) = (x.length : Int) + 1 := by unfold IntKind.wrap; simp [IntKind.signed, IntKind.bits]; omega
  have hsl : (x.length : Int) + 1 ≤ s.size := by omega
  by_cases hi : Lib.itoa v = x
  · subst hi
    go_wp2
    go_quiet (fail)
    go_wp2
    go_ret3
    refine ⟨?_, hb2.trans ⟨rfl, rfl, rfl, Nat.le_refl _, fun _ _ => rfl⟩⟩
    have hex : s.extract ((Lib.itoa v).length + 1) s.size = ⟨(s.data.toList.drop ((Lib.itoa v).length + 1)).toArray⟩ := by
      have hl : s.size = s.data.toList.length := by rw [Array.length_toList]; rfl
      apply ByteArray.ext
      apply Array.ext'
      rw [ByteArray.data_extract, hl, Array.toList_extract, List.extract_eq_take_drop]
      exact List.take_of_length_le (by rw [List.length_drop]; omega)
    first
      | (rw [← hex]; rfl)
      | (rw [if_pos rfl, ← hex]; rfl)
  · have hne : ¬ (⟨(Lib.itoa v).toArray⟩ : ByteArray) = ⟨x.toArray⟩ := fun e => hi (by simpa using congrArg (fun b : ByteArray => b.data.toList) e)
    go_wp2
    · go_ret3
      exact ⟨rfl, hb2⟩
    · exfalso
      simp_all
theorem ri_fail (s : ByteArray) (hlim : s.size ≤ 281474976710656) (h : ∀ v, Lib.atoiAll s.data.toList ≠ .ok v) (w : World)
    (ev1 ev2 : Value) (h1 : w.cell? ⟨Tryz.laysAtoi_ren.g 15, 0, none⟩ = some ev1) (he1 : ev1 = .nilIface ∨ ∃ te pe, ev1 = .iface te pe) (h2 : w.cell? ⟨Tryz.laysAtoi_ren.g 16, 0, none⟩ = some ev2) (he2 : ev2 = .nilIface ∨ ∃ te pe, ev2 = .iface te pe) :
    Calls Tryz.prog 122 #[.string s] w fun e w' => ∃ n N, e = .returned (.tuple #[.int .i64 n, .iface (Tryz.laysAtoi_ren.t 168) (.pointer (some ⟨N, 0, none⟩))]) ∧ Below w.heap.size w w' := by
  cases hx : Lib.atoiAll s.data.toList with
  | ok v => exact absurd hx (h v)
  | range =>
    refine (Any.strconv_Atoi_range Tryz.laysAtoi s hlim hx ev2 w h2 he2).mono ?_
    rintro e w' ⟨N, rfl, -, -, hb⟩
    exact ⟨_, N, rfl, hb⟩
  | _ =>
    refine (Any.strconv_Atoi_syntax Tryz.laysAtoi s hlim hx ev1 w h1 he1).mono ?_
    rintro e w' ⟨N, rfl, -, -, hb⟩
    exact ⟨_, N, rfl, hb⟩
theorem ri_bad (s : ByteArray) (m : Int) (w : World) (hm : w.cell? ⟨0, 0, none⟩ = some (.int .i64 m)) (x y : List UInt8) (hc : Lib.cut (s.data.toList.take (min (s.size : Int) 21).toNat) [59] = (x, y, true)) (hx : x.length ≤ 20)
    (h : ∀ v, Lib.atoiAll x ≠ .ok v)
    (ev1 ev2 : Value) (h1 : w.cell? ⟨Tryz.laysAtoi_ren.g 15, 0, none⟩ = some ev1) (he1 : ev1 = .nilIface ∨ ∃ te pe, ev1 = .iface te pe) (h2 : w.cell? ⟨Tryz.laysAtoi_ren.g 16, 0, none⟩ = some ev2) (he2 : ev2 = .nilIface ∨ ∃ te pe, ev2 = .iface te pe) :
    Calls Tryz.prog 111 #[.string s] w fun e w' => e = .returned (.tuple #[.int .i64 0, .string ⟨#[]⟩, .bool false]) ∧ Below w.heap.size w w' := by
  go_enter Tryz.func111, Tryz.ntmps111
  go_wp2_with (go_at_call 121; refine (ri_cut _ _ m _ ?_ hm).mono ?_)
  · simp only [ByteArray.size_extract]; omega
  rintro e w' rfl n rfl
  have hf := ri_fail ⟨x.toArray⟩ (by show x.toArray.size ≤ _; simp; omega) (show ∀ v, Lib.atoiAll (⟨x.toArray⟩ : ByteArray).data.toList ≠ .ok v from h) (w.drewN n) ev1 ev2 h1 he1 h2 he2
  go_wp2_with (go_at_call 122; refine hf.mono ?_)
  rintro e w' ⟨nn, N, rfl, hb⟩
  go_wp2
  go_ret3
  exact ⟨rfl, Below.trans (show Below w.heap.size w (w.drewN n) from ⟨rfl, rfl, rfl, Nat.le_refl _, fun _ _ => rfl⟩) hb⟩
end Go.Proofs


set_option maxRecDepth 10000
namespace Go.Wire
open Go.Lib
theorem index_semi : ∀ t : Txt, index t [59] = if (59 : UInt8) ∈ t then ((t.takeWhile fun c => decide (c ≠ 59)).length : Int) else -1
  | [] => rfl
  | b :: l => by
    have ih := index_semi l
    rw [index]
    by_cases hb : b = 59
    · subst hb
      have e : ([59] : List UInt8).isPrefixOf (59 :: l) = true := by simp [List.isPrefixOf]
      rw [e]
      simp
    · have e : ([59] : List UInt8).isPrefixOf (b :: l) = false := by
        simp only [List.isPrefixOf, Bool.and_true, beq_eq_false_iff_ne]
        exact fun h => hb h.symm
      rw [e, ih]
      have hm : (59 : UInt8) ∈ b :: l ↔ 59 ∈ l := ⟨fun h => (List.mem_cons.1 h).resolve_left (fun h => hb h.symm), List.mem_cons_of_mem _⟩
      by_cases h : (59 : UInt8) ∈ l
      · rw [if_pos h, if_pos (hm.2 h), List.takeWhile_cons_of_pos (by simpa using hb)]
        have : ¬ (((l.takeWhile fun c => decide (c ≠ 59)).length : Int) == -1) = true := by
          simp only [beq_iff_eq]; omega
        simp only [Bool.false_eq_true, if_false, this, List.length_cons]
        push_cast; rfl
      · rw [if_neg h, if_neg (fun h2 => h (hm.1 h2))]
        rfl
theorem cut_semi (t : Txt) : (cut t [59]).2.2 = decide ((59 : UInt8) ∈ t) ∧ ((59 : UInt8) ∈ t → (cut t [59]).1 = t.takeWhile fun c => decide (c ≠ 59)) := by
  unfold cut
  rw [index_semi]
  by_cases h : (59 : UInt8) ∈ t
  · rw [if_pos h, if_pos (by omega)]
    refine ⟨by simp [h], fun _ => ?_⟩
    obtain ⟨r, hr⟩ := cut_at h
    generalize (t.takeWhile fun c => decide (c ≠ 59)) = x at hr ⊢
    show t.take (x.length : Int).toNat = x
    rw [hr, Int.toNat_natCast]
    simp
  · rw [if_neg h, if_neg (by omega)]
    exact ⟨by simp [h], fun h2 => absurd h2 h⟩
end Go.Wire


set_option maxRecDepth 100000
namespace Go.Proofs
open Go.Shelf Go.RowKit Go.Wire
def riV (t : Txt) : Value := match rI t with
  | some (n, r) => .tuple #[.int .i64 n, .string ⟨r.toArray⟩, .bool true]
  | none => .tuple #[.int .i64 0, .string ⟨#[]⟩, .bool false]
theorem readInt (s : ByteArray) (m : Int) (w : World) (hm : w.cell? ⟨0, 0, none⟩ = some (.int .i64 m)) (htab : ∀ w', Below w.heap.size w w' → Lib.TabIs Tryz.prog w' "internal/strconv.uint64pow10" .u64 Lib.pow10Tab)
    (ev1 ev2 : Value) (h1 : w.cell? ⟨Tryz.laysAtoi_ren.g 15, 0, none⟩ = some ev1) (he1 : ev1 = .nilIface ∨ ∃ te pe, ev1 = .iface te pe) (h2 : w.cell? ⟨Tryz.laysAtoi_ren.g 16, 0, none⟩ = some ev2) (he2 : ev2 = .nilIface ∨ ∃ te pe, ev2 = .iface te pe) :
    Calls Tryz.prog 111 #[.string s] w fun e w' => e = .returned (riV s.data.toList) ∧ Below w.heap.size w w' := by
  have hl : s.size = s.data.toList.length := by rw [Array.length_toList]; rfl
  have ht : s.data.toList.take (min (s.size : Int) 21).toNat = s.data.toList.take 21 := by
    by_cases h : s.size ≤ 21
    · rw [show (min (s.size : Int) 21).toNat = s.size by omega, hl, List.take_length, List.take_of_length_le (by omega)]
    · rw [show (min (s.size : Int) 21).toNat = 21 by omega]
  obtain ⟨c1, c2⟩ := cut_semi (s.data.toList.take 21)
  by_cases h59 : (59 : UInt8) ∈ s.data.toList.take 21
  · obtain ⟨r, hr⟩ := cut_at h59
    have hx := c2 h59
    have hri : rI s.data.toList = match Lib.atoiAll ((s.data.toList.take 21).takeWhile fun c => decide (c ≠ 59)) with
      | .ok n => if Lib.itoa n = (s.data.toList.take 21).takeWhile (fun c => decide (c ≠ 59)) then some (n, s.data.toList.drop ((Lib.itoa n).length + 1)) else none
      | _ => none := by
      first
        | (rw [rI, if_pos h59]; done)
        | (rw [rI, if_pos h59]; cases Lib.atoiAll ((s.data.toList.take 21).takeWhile fun c => decide (c ≠ 59)) <;> rfl)
    generalize ((s.data.toList.take 21).takeWhile fun c => decide (c ≠ 59)) = x at hr hx hri
    have hlen := congrArg List.length hr
    rw [List.length_take, List.length_append, List.length_cons] at hlen
    have hc : Lib.cut (s.data.toList.take (min (s.size : Int) 21).toNat) [59] = (x, (Lib.cut (s.data.toList.take 21) [59]).2.1, true) := by
      rw [ht]
      refine Prod.ext hx (Prod.ext rfl ?_)
      show _ = true
      rw [c1]; simpa using h59
    cases ha : Lib.atoiAll x with
    | ok v =>
      obtain ⟨b0, b1⟩ := atoi_in ha
      refine (ri_yes s m w hm x _ hc (by omega) (by omega) v ha b0 b1 htab).mono ?_
      rintro e w' ⟨rfl, hb⟩
      refine ⟨?_, hb⟩
      rw [riV, hri, ha]
      by_cases hi : Lib.itoa v = x
      · simp only [hi, if_true]
      · simp only [hi, if_false]
    | _ =>
      refine (ri_bad s m w hm x _ hc (by omega) (by intro v; rw [ha]; intro e; cases e) ev1 ev2 h1 he1 h2 he2).mono ?_
      rintro e w' ⟨rfl, hb⟩
      exact ⟨by rw [riV, hri, ha], hb⟩
  · have hc : Lib.cut (s.data.toList.take (min (s.size : Int) 21).toNat) [59] = ((Lib.cut (s.data.toList.take 21) [59]).1, (Lib.cut (s.data.toList.take 21) [59]).2.1, false) := by
      rw [ht]
      refine Prod.ext rfl (Prod.ext rfl ?_)
      show _ = false
      rw [c1]; simpa using h59
    refine (ri_none s m w hm _ _ hc).mono ?_
    rintro e w' ⟨rfl, n, rfl⟩
    exact ⟨by rw [riV, rI, if_neg h59], ⟨rfl, rfl, rfl, Nat.le_refl _, fun _ _ => rfl⟩⟩
end Go.Proofs


set_option maxRecDepth 100000
set_option maxHeartbeats 2000000
namespace Go.Proofs
open Go.Shelf Go.RowKit Go.Lib
theorem Tryz.bx169 : Builder.Extra Tryz.prog Tryz.laysString_ren where
  sizeBuilder := by kernel_rfl
  liesBuilder := by kernel_rfl
  t5 := Tryz.underlying5
  a5 := Tryz.isAgg5
  z5 := Tryz.sizeOf5
  v5 := Tryz.zeroValue5
  infoByte := by kernel_rfl
  cellsByte := by kernel_rfl
  sizeByte := by kernel_rfl
  neB5 := by decide
theorem cc_used (b : Nat) (w : World) (h0 : w.cell? ⟨b, 0, none⟩ = some (.pointer (some ⟨b, 0, none⟩))) :
    Calls Tryz.prog 109 #[.pointer (some ⟨b, 0, none⟩)] w fun e w' => e = .returned (.tuple #[]) ∧ w' = w := by
  obtain ⟨j, hj, _⟩ := Option.map_eq_some_iff.1 Tryz.bx169.sizeBuilder
  go_enter Tryz.func109, Tryz.ntmps109
  go_wp2
  rw [Lib.run_neq_ptr_same w _ Tryz.underlying89 hj]
  go_wp2
  go_end0
  exact ⟨rfl, rfl⟩
theorem cc_fresh (b : Nat) (w : World) (h0 : w.cell? ⟨b, 0, none⟩ = some (.pointer none)) (hsh : w.shape? b = some (92, 2)) (hfz : w.frozen? ⟨b, 0, none⟩ = false) :
    Calls Tryz.prog 109 #[.pointer (some ⟨b, 0, none⟩)] w fun e w' => e = .returned (.tuple #[]) ∧ w' = w.setCell ⟨b, 0, none⟩ (.pointer (some ⟨b, 0, none⟩)) := by
  obtain ⟨j, hj, hjs⟩ := Option.map_eq_some_iff.1 Tryz.bx169.sizeBuilder
  go_enter Tryz.func109, Tryz.ntmps109
  go_wp2
  rw [Lib.run_to_unsafe w ⟨b, 0, none⟩ Tryz.underlying89 Tryz.underlying127 hj (by rw [hjs]; decide) hsh (Nat.zero_lt_succ 1)]
  simp only [Result.andThen]
  rw [Oper.upon_value]
  go_wp2
  rw [run_callFunc_extern Tryz.func119 (by kernel_rfl) (by kernel_rfl) (by kernel_rfl) (e := Extern.AbiNoEscape.same) (by kernel_rfl)]
  rw [Lib.run_noEscape]
  simp only [Result.andThen]
  rw [Oper.upon_value]
  go_wp2
  rw [Lib.run_from_unsafe w ⟨b, 0, none⟩ Tryz.underlying127 Tryz.underlying89 hj hsh Tryz.bx169.liesBuilder]
  simp only [Result.andThen]
  rw [Oper.upon_value]
  go_wp2
  go_end0
  exact ⟨rfl, rfl⟩
theorem cc_any (B b : Nat) (bs : List Value) (w : World) (h : Lib.IsBuilderF 92 5 B b bs w) :
    Calls Tryz.prog 109 #[.pointer (some ⟨b, 0, none⟩)] w fun e w' => e = .returned (.tuple #[]) ∧ Lib.BuilderAtF 92 5 B b (.pointer (some ⟨b, 0, none⟩)) bs w' ∧ Below B w w' := by
  rcases h with h | h
  · refine (cc_fresh b w h.cell0 h.shape h.frozen0).mono ?_
    rintro e w' ⟨rfl, rfl⟩
    exact ⟨rfl, h.used _, (Below.refl B w).setCell (p := ⟨b, 0, none⟩) h.1 _⟩
  · refine (cc_used b w h.cell0).mono ?_
    rintro e w' ⟨rfl, rfl⟩
    exact ⟨rfl, h, Below.refl B _⟩
theorem b_write (B b : Nat) (bs : List Value) (s : ByteArray) (w : World) (h : Lib.IsBuilderF 92 5 B b bs w) (hlen : bs.length + s.size ≤ 140737488355328) (hBw : B ≤ w.heap.size) :
    Calls Tryz.prog 81 #[.pointer (some ⟨b, 0, none⟩), .string s] w fun e w' => e = .returned (.tuple #[.int .i64 s.size, .nilIface]) ∧ Lib.IsBuilderF 92 5 B b (bs ++ Lib.strCells s) w' ∧ Below B w w' := by
  obtain ⟨i0, hi, hz0, hz1, hz2⟩ := info_parts Tryz.bx169.infoByte
  go_enter Tryz.func81, Tryz.ntmps81
  go_wp2_with (go_at_call 109; refine (cc_any B b bs _ h).mono ?_)
  rintro e w1 ⟨rfl, h1, hb1⟩
  obtain ⟨hB, v, hbk, hown, hne⟩ := h1
  have c0 : w1.cell? ⟨b, 0, none⟩ = some (.pointer (some ⟨b, 0, none⟩)) := by rw [Lib.cell_of_heap hbk]; rfl
  have c1 : w1.cell? ⟨b, 1, none⟩ = some v := by rw [Lib.cell_of_heap hbk]; rfl
  go_wp2_with (at_builtin; refine Lib.wpList_append_own_stringF _ rfl _ _ 90 9 rfl B 5 i0 Tryz.underlying90 Tryz.underlying9 hi hz0 hz1 hz2 _ _ _ rfl hown s rfl ?c3 ?c4 ?c5 ?_)
  case c3 => unfold maxLen; omega
  case c4 => omega
  case c5 => have := hb1.size; omega
  intro v' w2 hown' hgrow _
  have hlt : b < w1.heap.size := by
    rcases Nat.lt_or_ge b w1.heap.size with h' | h'
    · exact h'
    · simp [Array.getElem?_eq_none h'] at hbk
  have hb2 : w2.heap[b]? = some (.cells #[.pointer (some ⟨b, 0, none⟩), v] 92 (0, 0)) := by
    rw [hgrow.block b hlt (fun e => hne e.symm)]
    exact hbk
  have d0 : w2.cell? ⟨b, 0, none⟩ = some (.pointer (some ⟨b, 0, none⟩)) := by rw [Lib.cell_of_heap hb2]; rfl
  have d1 : w2.cell? ⟨b, 1, none⟩ = some v := by rw [Lib.cell_of_heap hb2]; rfl
  have f1 : w2.frozen? ⟨b, 1, none⟩ = false := Lib.frozen_of_heap hb2 1
  obtain ⟨ao, n', cap, rfl⟩ : ∃ ao n' cap, v' = .slice ao n' cap := by
    rcases hown'.2 with ⟨hv, _⟩ | ⟨g, cap, cur, fz, hv, _⟩
    · exact ⟨_, _, _, hv⟩
    · exact ⟨_, _, _, hv⟩
  go_wp2
  go_ret2
  refine ⟨rfl, .inr ?_, ?_⟩
  · exact Lib.BuilderAtF.put (T := 92) (e := 5) hB hb2 (bs' := bs ++ Lib.strCells s) (by simpa [Lib.strCells_length] using hown') (by decide)
  · exact (hb1.grown hgrow (by have := hb1.size; omega) (fun k hk => (hown.lt k hk).1)).setCell (p := ⟨b, 1, none⟩) hB _
end Go.Proofs


set_option maxRecDepth 100000
set_option maxHeartbeats 4000000
namespace Go.Abs
open Go.Proofs Go.Wire Go.RowKit
def encS (s : Txt) : List C := [.str s]
@[simp] theorem normRow_encS (s : Txt) : C.normRow (encS s) = encS s := rfl
def strs (l : List Txt) : List (List C) := l.map encS
@[simp] theorem normRows_strs (l : List Txt) : C.normRows (strs l) = strs l := normRows_eq (fun _ => rfl) l
@[simp] theorem strs_len (l : List Txt) : (strs l).length = l.length := by simp [strs]
theorem strs_at {l : List Txt} {i : Nat} (h : i < l.length) : (strs l).getD i [] = [.str l[i]] := by simp [strs, encS, h]
@[simp] theorem strs_isEmpty (l : List Txt) : (strs l).isEmpty = l.isEmpty := by cases l <;> rfl
theorem strs_snoc (l : List Txt) (s : Txt) : strs l ++ [[.str s]] = strs (l ++ [s]) := by simp [strs, encS]
theorem take_succ_eq {α : Type} {a b : List α} {i : Nat} (ha : i < a.length) (hb : i < b.length) (h : a.take i = b.take i) (e : a[i] = b[i]) : a.take (i + 1) = b.take (i + 1) := by
  rw [List.take_add_one, List.take_add_one, h, List.getElem?_eq_getElem ha, List.getElem?_eq_getElem hb, e]
theorem w26 (a b : List Txt) : Spec Tryz.prog 20 [lst 1 (strs a), lst 1 (strs b)] (fun r => r = .bool (decide (a = b))) := by
  refine Spec.of_len hf20 fun hlen => ?_
  have hl := len_lst (sz := 1) (rows := strs a) List.mem_cons_self hlen
  rw [strs_len] at hl
  clear hlen
  refine Spec.of_awlS hf20 okf20 (by simp) fun S hS => ?_
  by_cases hab : a.length = b.length
  · have c0 : ((a.length : Int) != b.length) = false := by simp [hab]
    simp only [strs_len, c0, Qs, if_true, Nat.reduceAdd, Nat.reduceBEq, uu f20.eq_1, uu f20b16.eq_1, vv f20r17.eq_1, uu f20b18.eq_1, uu f20b19.eq_1, uu f20b22.eq_1, vv f20r23.eq_1, uu f20b24.eq_1, uu f20b25.eq_1, vv f20r26.eq_1, uu f20b27.eq_1]
    rw [uf20l15]
    refine awl_loop (fun i : Nat => [(0, lst 1 (strs a)), (1, lst 1 (strs b)), (5, .int .i64 i)]) (fun _ => [])
      (fun i => i ≤ a.length ∧ a.take i = b.take i) (fun i => a.length - i) 0 rfl rfl ⟨Nat.zero_le _, rfl⟩ ?_
    rintro i ⟨hi, hj⟩
    by_cases hlt : i < a.length
    · have c1 : (i : Int) < a.length := by omega
      have c2 : (i : Int) < b.length := by omega
      have hltb : i < b.length := by omega
      have c4 : IntKind.i64.wrap ((i : Int) + 1) = (i : Int) + 1 := wrap_in (by omega) (by omega)
      simp only [strs_len, c1, c2, c4, strs_at hlt, strs_at hltb, Qs, if_true, List.nodup_nil, Nat.reduceBEq, vv f20r3.eq_1, vv f20r4.eq_1, uu f20b5.eq_1, uu f20b6.eq_1, vv f20r7.eq_1, uu f20b8.eq_1, uu f20b9.eq_1, uu f20b10.eq_1, uu f20b11.eq_1, vv f20r12.eq_1, uu f20b13.eq_1, uu f20b14.eq_1]
      refine ⟨fun h => Next.intro (i + 1) rfl rfl ⟨by omega, take_succ_eq hlt hltb hj h⟩ (by omega), fun h => fin hS ?_⟩
      have : a ≠ b := fun e => h (by subst e; rfl)
      simp [this]
    · have c1 : ¬ (i : Int) < a.length := by omega
      simp only [strs_len, c1, Qs, if_true, List.nodup_nil, Nat.reduceBEq, vv f20r1.eq_1, uu f20b2.eq_1, uu f20b11.eq_1, vv f20r12.eq_1, uu f20b13.eq_1, uu f20b14.eq_1]
      rw [List.take_of_length_le (by omega), List.take_of_length_le (by omega)] at hj
      exact fin hS (by simp [hj])
  · have c0 : ((a.length : Int) != b.length) = true := by simp; omega
    simp only [strs_len, c0, Qs, if_true, List.nodup_nil, Nat.reduceAdd, Nat.reduceBEq, uu f20.eq_1, vv f20r20.eq_1, uu f20b21.eq_1, uu f20b22.eq_1, vv f20r23.eq_1, uu f20b24.eq_1, uu f20b25.eq_1, vv f20r26.eq_1, uu f20b27.eq_1]
    have : a ≠ b := fun e => hab (by rw [e])
    exact fin hS (by simp [this])
def resI (r : Option (Int × Txt)) : V := match r with
  | some (n, r) => .tup [.int .i64 n, .str r, .bool true]
  | none => .tup [.int .i64 0, .str [], .bool false]
theorem Spec.of_awlP {P : Program} {f : FuncId} {n : Nat} {c : AQ} {rs : List RX} {args : List V} {X : V} (hc : cFunc P f = some ⟨n, c.erase, rs⟩) (hok : c.ok = true) (hlen : args.length ≤ n)
    (h : ∀ S : V → Prop, (∀ r, r.fz.nrm = X → S r) → awl P c (endK rs S) (initT 0 args) []) : Spec P f args (fun r => r = X) :=
  (Spec.of_awl hc hok hlen (h (fun r => r.fz.nrm = X) fun _ h => h)).plain.mono (by rintro r' ⟨r, h, rfl⟩; exact h)
theorem resI_scalar (r : Option (Int × Txt)) : (resI r).scalar = true := by unfold resI; split <;> rfl
def resS (r : Option (Txt × Txt)) : V := match r with
  | some (n, r) => .tup [.str n, .str r, .bool true]
  | none => .tup [.str [], .str [], .bool false]
theorem resS_scalar (r : Option (Txt × Txt)) : (resS r).scalar = true := by unfold resS; split <;> rfl
theorem rI_len {s r : Txt} {n : Int} (h : rI s = some (n, r)) : r.length ≤ s.length := by
  have h1 := (rI_some h).2
  rw [h1, List.length_append]; omega
theorem wI_le {n : Int} (h : inI n) : (wI n).length ≤ 21 := by
  have := itoa_len h
  rw [wI, List.length_append, List.length_singleton]; omega
theorem wS_le {s : Txt} (h : s.length ≤ 1000000000000) : (wS s).length ≤ 21 + s.length := by
  have := wI_le (n := s.length) ⟨by omega, by omega⟩
  rw [wS, List.length_append]; omega
theorem callable_at {P : Program} {f : FuncId} (h : (match P.funcs[f]? with | some fn => fn.body.isSome && !(fn.name == "runtime.NumGoroutine") | none => false) = true) : Callable P f := by
  unfold Callable
  cases hf : P.funcs[f]? with
  | none => rw [hf] at h; simp at h
  | some fn => rw [hf] at h; simp only [Bool.and_eq_true, Bool.not_eq_true'] at h; exact ⟨fn, rfl, h.1, h.2⟩
theorem kept_of_below {w w' : World} (h : Below w.heap.size w w') : Kept w w' := ⟨h.os, h.tape, h.output, h.size, h.block⟩
theorem below_of_kept {w w' : World} (h : Kept w w') : Below w.heap.size w w' := ⟨h.os, h.tape, h.output, h.size, h.block⟩
theorem tab_of {w : World} (hG : GlobB (base w)) : Go.Lib.TabIs Tryz.prog w "internal/strconv.uint64pow10" .u64 Go.Lib.pow10Tab := by
  obtain ⟨_, b, hb, hp⟩ := hG.2 3 _ rfl
  have hn : Tryz.prog.globalNamed "internal/strconv.uint64pow10" = some 3 := by kernel_rfl
  unfold Go.Lib.TabIs World.var?
  rw [hn, Option.bind_some]
  have hb' : w.heap[3]? = some b := hb
  rw [hb']
  cases b with
  | cells cs t f =>
    have e : cs = _ := hp
    simp only [e]
    rfl
  | _ => exact hp.elim
theorem cell_of {w : World} {g : Nat} {p : Value → Prop} (hG : GlobB (base w)) (h : globObj g = some (cell0 p)) : ∃ v, w.cell? ⟨g, 0, none⟩ = some v ∧ p v := by
  obtain ⟨_, b, hb, hp⟩ := hG.2 g _ h
  have hb' : w.heap[g]? = some b := hb
  cases b with
  | cells cs t f =>
    obtain ⟨v, h1, h2⟩ := hp
    exact ⟨v, by simp only [World.cell?, hb']; exact h1, h2⟩
  | _ => exact hp.elim
theorem w27 (n : Int) (h : inI n) : Spec Tryz.prog 112 [.int .i64 n] (fun r => r = .str (Go.Lib.itoa n)) :=
  itoa_spec Tryz.laysItoa (callable_at (by kernel_rfl)) (fun w hG => tab_of hG) n h.1 h.2
theorem riV_rep (s : Txt) (w : World) (Z : Bk → Prop) : VRep w Z (fun _ => none) (fun _ => none) (resI (rI s)) (riV s) := by
  unfold riV resI
  cases rI s with
  | none => exact ⟨_, rfl, rfl, ⟨rfl, .int _ _⟩, ⟨rfl, .str _⟩, ⟨rfl, .bool _⟩, trivial⟩
  | some p => exact ⟨_, rfl, rfl, ⟨rfl, .int _ _⟩, ⟨rfl, .str _⟩, ⟨rfl, .bool _⟩, trivial⟩
theorem resI_plain (r : Option (Int × Txt)) : (∀ n, (resI r).reg n = (resI r, [])) ∧ ∀ τ, (resI r).noRef τ = true := by
  unfold resI
  split <;> exact ⟨fun _ => rfl, fun _ => rfl⟩
theorem w17 (s : Txt) : Spec Tryz.prog 111 [.str s] (fun r => r = resI (rI s)) := by
  refine ⟨callable_at (by kernel_rfl), fun w Z vs hG hz ha => ?_⟩
  obtain ⟨l⟩ := vs
  match l, ha with
  | [], ha => exact absurd ha.1 (by simp)
  | _ :: _ :: _, ha => exact absurd ha.1 (by simp)
  | [v1], ha =>
    have e1 := prep_str (ha.2 0 _ v1 rfl rfl).2.2
    subst e1
    obtain ⟨_, h0, m, rfl⟩ := cell_of hG (g := 0) rfl
    obtain ⟨ev1, h1, he1⟩ := cell_of hG (g := 1) rfl
    obtain ⟨ev2, h2, he2⟩ := cell_of hG (g := 2) rfl
    refine (readInt ⟨s.toArray⟩ m w h0 (fun w' hb => tab_of (hG.later (kept_of_below hb))) ev1 ev2 h1 he1 h2 he2).mono ?_
    rintro e w' ⟨rfl, hb⟩
    have he : (⟨s.toArray⟩ : ByteArray).data.toList = s := rfl
    rw [he]
    exact ⟨_, _, rfl, rfl, (resI_plain _).2, rrep_pure hG (kept_of_below hb) (resI_plain _).1 (fun Z => riV_rep s _ Z)⟩
theorem w9 (n : Int) (h : inI n) : Spec Tryz.prog 91 [.int .i64 n] (fun r => r = .str (wI n)) := by
  refine Spec.of_awlS hf91 okf91 (by simp) fun S hS => ?_
  simp only [Qs, Nat.reduceBEq, uu f91.eq_1, vv f91r1.eq_1, uu f91b2.eq_1, vv f91r3.eq_1, uu f91b4.eq_1]
  refine call_s (w27 n h) ?_
  simp only [Qs, List.nodup_nil, Nat.reduceLeDiff]
  exact ⟨by have := itoa_len h; omega, hS⟩
theorem w11 (s : Txt) (hs : s.length ≤ 1000000000000) : Spec Tryz.prog 68 [.str s] (fun r => r = .str (wS s)) := by
  have h0 : inI (s.length : Int) := ⟨by omega, by omega⟩
  have h1 := wI_le h0
  refine Spec.of_awlS hf68 okf68 (by simp) fun S hS => ?_
  simp only [Qs, Nat.reduceBEq, uu f68.eq_1, vv f68r1.eq_1, uu f68b2.eq_1, vv f68r3.eq_1, uu f68b4.eq_1]
  refine call_s (w9 s.length h0) ?_
  have c : (wI s.length).length + s.length ≤ 9223372036854775807 := by omega
  simp only [c, Qs, List.nodup_nil, Nat.reduceBEq]
  exact hS
theorem arg2 {w : World} {Z : Bk → Prop} {a b : V} {vs : Array Value} (ha : ARep w Z [a, b] vs.toList) : ∃ v1 v2, vs = #[v1, v2] ∧ VRep w Z (fun _ => none) (fun _ => none) a v1 ∧ VRep w Z (fun _ => none) (fun _ => none) b v2 := by
  obtain ⟨l⟩ := vs
  match l, ha with
  | [], ha => exact absurd ha.1 (by simp)
  | [_], ha => exact absurd ha.1 (by simp)
  | _ :: _ :: _ :: _, ha => exact absurd ha.1 (by simp)
  | [v1, v2], ha => exact ⟨v1, v2, rfl, (ha.2 0 _ v1 rfl rfl).2, (ha.2 1 _ v2 rfl rfl).2⟩
theorem w19 (s : Txt) (hs : s.length ≤ 1000000000000) : Spec Tryz.prog 90 [.str s] (fun r => r = resS (rS s)) := by
  refine Spec.of_awlS hf90 okf90 (by simp) fun S hS => ?_
  unfold rS at hS
  simp only [Qs, Nat.reduceBEq, uu f90.eq_1, vv f90r9.eq_1, uu f90b10.eq_1, vv f90r11.eq_1, uu f90b12.eq_1]
  refine call_s (w17 s) ?_ (hr := resI_scalar _)
  cases h : rI s with
  | none =>
    rw [h] at hS
    simp only [resI, Qs, List.append_nil, List.nodup_nil, Nat.reduceBEq, vv f90r3.eq_1, uu f90b4.eq_1, uu f90b5.eq_1, vv f90r6.eq_1, uu f90b7.eq_1, uu f90b8.eq_1]
    exact hS
  | some p =>
    obtain ⟨n, r⟩ := p
    have hr := rI_len h
    rw [h] at hS
    simp only [Option.bind_some] at hS
    by_cases hn : n < 0
    · rw [if_pos (.inl hn)] at hS
      simp only [resI, hn, Qs, if_true, if_false, List.append_nil, List.nodup_nil, Nat.reduceBEq, vv f90r3.eq_1, uu f90b4.eq_1, uu f90b5.eq_1, vv f90r6.eq_1, uu f90b7.eq_1, uu f90b8.eq_1]
      exact hS
    · by_cases hl : n > r.length
      · rw [if_pos (.inr hl)] at hS
        simp only [resI, hn, hl, Qs, if_true, if_false, List.append_nil, List.nodup_nil, Nat.reduceBEq, vv f90r3.eq_1, uu f90b4.eq_1, uu f90b5.eq_1, vv f90r6.eq_1, uu f90b7.eq_1, uu f90b8.eq_1]
        exact hS
      · rw [if_neg (fun h => h.elim hn hl)] at hS
        have b1 : (0 : Int) ≤ n := by omega
        have b2 : n ≤ r.length := by omega
        simp only [resI, hn, hl, b1, b2, Qs, q_exLQ_eq_21, if_true, if_false, List.append_nil, List.nodup_nil, Nat.reduceBEq, Int.reduceLE, vv f90r1.eq_1, uu f90b2.eq_1, uu f90b5.eq_1, vv f90r6.eq_1, uu f90b7.eq_1, uu f90b8.eq_1]
        rw [List.take_length]
        exact ⟨Int.le_refl _, hS⟩
end Go.Abs


set_option maxRecDepth 100000
set_option maxHeartbeats 4000000
namespace Go.Proofs
open Go.Shelf Go.RowKit Go.Lib
theorem Tryz.bxg : Builder.Extra Tryz.prog Tryz.laysGrow_ren where
  sizeBuilder := by kernel_rfl
  liesBuilder := by kernel_rfl
  t5 := Tryz.underlying5
  a5 := Tryz.isAgg5
  z5 := Tryz.sizeOf5
  v5 := Tryz.zeroValue5
  infoByte := by kernel_rfl
  cellsByte := by kernel_rfl
  sizeByte := by kernel_rfl
  neB5 := by decide
theorem b_len (B b : Nat) (bs : List Value) (w : World) (h : Lib.IsBuilderF 92 5 B b bs w) :
    Calls Tryz.prog 82 #[.pointer (some ⟨b, 0, none⟩)] w fun e w' => e = .returned (.int .i64 bs.length) ∧ w' = w := Any.Builder_Len_f Tryz.laysLen B b bs w h
theorem b_stringF (B b : Nat) (l : List UInt8) (w : World) (h : Lib.IsBuilderF 92 5 B b (Lib.byteCells l) w) (hBw : B ≤ w.heap.size) :
    Calls Tryz.prog 83 #[.pointer (some ⟨b, 0, none⟩)] w fun e w' => e = .returned (.string ⟨l.toArray⟩) ∧ Lib.IsBuilderF 92 5 B b (Lib.byteCells l) w' ∧ Below B w w' :=
  (Any.Builder_String_any_k Tryz.laysString Tryz.bx169 B b l w h hBw).mono fun _ _ h => ⟨h.1, h.2.1, h.2.2.1⟩
theorem b_growf (B b n : Nat) (w : World) (hB : B ≤ b) (hbk : w.heap[b]? = some (.cells #[.pointer (some ⟨b, 0, none⟩), .slice none 0 0] 92 (0, 0))) (hBw : B ≤ w.heap.size) (hn : n ≤ 281474976710656) :
    Calls Tryz.prog 110 #[.pointer (some ⟨b, 0, none⟩), .int .i64 n] w fun e w' => e = .returned (.tuple #[]) ∧ (Lib.BuilderAt 92 5 B b (.pointer (some ⟨b, 0, none⟩)) [] w' ∧ Below B w w') := Any.Builder_grow_fresh Tryz.laysGrow Tryz.bxg B b n w hB hbk hBw hn
theorem b_grow (B b n : Nat) (w : World) (hB : B ≤ b) (hbk : w.heap[b]? = some (.cells #[.pointer none, .slice none 0 0] 92 (0, 0))) (hBw : B ≤ w.heap.size) (hn : n ≤ 281474976710656) :
    Calls Tryz.prog 80 #[.pointer (some ⟨b, 0, none⟩), .int .i64 n] w fun e w' => e = .returned (.tuple #[]) ∧ (Lib.IsBuilderF 92 5 B b [] w' ∧ Below B w w') := by
  have hbk1 : (w.setCell ⟨b, 0, none⟩ (.pointer (some ⟨b, 0, none⟩))).heap[b]? = some (.cells #[.pointer (some ⟨b, 0, none⟩), .slice none 0 0] 92 (0, 0)) := by
    simp [World.setCell, Array.getElem?_modify, hbk]
  have c1 : (w.setCell ⟨b, 0, none⟩ (.pointer (some ⟨b, 0, none⟩))).cell? ⟨b, 1, none⟩ = some (.slice none 0 0) := by rw [Lib.cell_of_heap hbk1]; rfl
  have hb1 : Below B w (w.setCell ⟨b, 0, none⟩ (.pointer (some ⟨b, 0, none⟩))) := (Below.refl B w).setCell (p := ⟨b, 0, none⟩) hB _
  go_enter Tryz.func80, Tryz.ntmps80
  have hU : Lib.BuilderAt 92 5 B b (.pointer (some ⟨b, 0, none⟩)) [] (w.setCell ⟨b, 0, none⟩ (.pointer (some ⟨b, 0, none⟩))) := ⟨hB, .slice none 0 0, hbk1, World.ownsRow_nil _ _ _ _, by simp [Value.ownBlock]⟩
  have c1' : (w.setCell ⟨b, 0, none⟩ (.pointer (some ⟨b, 0, none⟩))).drew.cell? ⟨b, 1, none⟩ = some (.slice none 0 0) := c1
  go_wp2_with (go_at_call 109; refine (cc_fresh b w (by rw [Lib.cell_of_heap hbk]; rfl) (by simp [World.shape?, hbk]) (Lib.frozen_of_heap hbk 0)).mono ?_; rintro e w' ⟨rfl, rfl⟩)
  go_region
  all_goals go_wp2_with (go_at_call 110; refine (b_growf B b n (w.setCell ⟨b, 0, none⟩ (.pointer (some ⟨b, 0, none⟩))).drew hB hbk1 (by simpa [World.setCell, World.drew, -World.drew_eq] using hBw) hn).mono ?_; rintro e w' ⟨rfl, h1, h2⟩)
  all_goals first
    | (go_end0; exact ⟨rfl, .of (.inr h1), hb1.drew.trans h2⟩)
    | (go_end0; exact ⟨rfl, .of (.inr hU.drew), hb1.drew⟩)
end Go.Proofs

