/- x -/
import Derived.Test.YtdgcoipbcloieaaDoorP3
import Derived.Test.YtdgcoipbcloieaaDoorProg
import Derived.IntWalk
import Derived.Lib.AtoiAll
import Derived.Lib.ItoaNum
import Derived.Shelf.Strconv.Itoa3
import Derived.Shelf.Strconv.AtoiAll
import Derived.Shelf.Strings.Cut
import Derived.Shelf.Strings.BuilderK
import Derived.Shelf.Strings.Builder2
import Derived.WalkKit
import Derived.BigCall
import Derived.OwnWalk
import Derived.Deep.QuietTactic
import Derived.BigQuiet
import Derived.Lib.IndexMore
import Derived.Shelf.Strings.Builder1
import Derived.Deep.LoopGhost
import Derived.Laws.CopyOwn
set_option linter.unusedVariables false
set_option linter.unusedSimpArgs false
set_option maxRecDepth 100000
namespace Go.Abs
open Go.Proofs
theorem uu {a b : AQ} (h : a = b) (P ts os Q) : awl P a Q ts os = awl P b Q ts os := h ▸ rfl
def f11r1 : List AI := [⟨none, (.load 94 4 true (.t 2))⟩, ⟨none, (.call (some 95) 29 [(.t 94)])⟩, ⟨none, (.extr 96 (.t 95) 0)⟩, ⟨none, (.extr 97 (.t 95) 1)⟩, ⟨none, (.store 4 (.t 4) (.t 96))⟩, ⟨none, (.mov 5 (.t 97))⟩]
def f11b2 : AQ := (.seq (.region f11r1) .ret)
def f11r3o0 : AI := ⟨none, (.load 84 4 true (.t 2))⟩
def f11r3o1 : AI := ⟨none, (.faddr 85 2 (.t 6))⟩
def f11r3o2 : AI := ⟨none, (.load 86 1 false (.t 85))⟩
def f11r3o3 : AI := ⟨none, (.bin 87 .sub (.v (.k (.c (.int .i64 1)))) (.t 86))⟩
def f11r3o4 : AI := ⟨none, (.mov 88 (.t 8))⟩
def f11r3o5 : AI := ⟨none, (.lenS 89 (.t 88))⟩
def f11r3o6 : AI := ⟨none, (.call (some 90) 30 [(.t 89)])⟩
def f11r3o7 : AI := ⟨none, (.call (some 91) 28 [(.t 84), (.t 87), (.t 90)])⟩
def f11r3o8 : AI := ⟨none, (.mov 83 (.t 91))⟩
def f11r3o9 : AI := ⟨none, (.extr 92 (.t 83) 0)⟩
def f11r3o10 : AI := ⟨none, (.extr 93 (.t 83) 1)⟩
def f11r3o11 : AI := ⟨none, (.store 4 (.t 2) (.t 92))⟩
def f11r3 : List AI := [f11r3o0, f11r3o1, f11r3o2, f11r3o3, f11r3o4, f11r3o5, f11r3o6, f11r3o7, f11r3o8, f11r3o9, f11r3o10, f11r3o11]
theorem utf11r3 : treeOf f11r3 [[], [], [1], [2], [], [4], [5], [0, 3, 6, 6], [7], [8], [8], [9, 7, 0, 1, 2, 3, 4, 5, 6, 7, 8, 9]] = (.one f11r3o0 (.one f11r3o1 (.one f11r3o2 (.one f11r3o3 (.one f11r3o4 (.one f11r3o5 (.one f11r3o6 (.one f11r3o7 (.one f11r3o8 (.one f11r3o9 (.alt (.one f11r3o10 (.one f11r3o11 .done)) (.alt (.one f11r3o11 (.one f11r3o10 .done)) .top)))))))))))) := by kernel_rfl
def f11b4 : AQ := (.seq (.tree f11r3 [[], [], [1], [2], [], [4], [5], [0, 3, 6, 6], [7], [8], [8], [9, 7, 0, 1, 2, 3, 4, 5, 6, 7, 8, 9]]) (.keep [2, 4] [2, 4, 71, 76, 91, 95, 72000, 72001, 72002, 77000, 77001, 77002, 92000, 92001, 92002, 96000, 96001, 96002] f11b2))
def f11r5 : List AI := [⟨none, (.load 81 4 true (.t 2))⟩, ⟨none, (.mov 82 (.t 7))⟩, ⟨none, (.store 4 (.t 4) (.t 81))⟩, ⟨none, (.mov 5 (.t 82))⟩]
def f11b6 : AQ := (.seq (.region f11r5) .ret)
def f11b7 : AQ := (.cond (.t 80) f11b6 .skip)
def f11r8 : List AI := [⟨none, (.mov 79 (.t 7))⟩, ⟨none, (.bin 80 .neq (.t 79) (.v (.k (.c (.int .i64 0)))))⟩]
def f11b9 : AQ := (.seq (.region f11r8) f11b7)
def f11b10 : AQ := (.seq f11b9 f11b4)
def f11r11 : List AI := [⟨none, (.load 75 4 true (.t 2))⟩, ⟨none, (.call (some 76) 29 [(.t 75)])⟩, ⟨none, (.mov 74 (.t 76))⟩, ⟨none, (.extr 77 (.t 74) 0)⟩, ⟨none, (.extr 78 (.t 74) 1)⟩, ⟨none, (.store 4 (.t 2) (.t 77))⟩, ⟨none, (.mov 7 (.t 78))⟩]
def f11b12 : AQ := (.seq (.region f11r11) f11b10)
def f11r13 : List AI := [⟨none, (.mov 55 (.t 9))⟩, ⟨none, (.bin 56 .add (.t 55) (.v (.k (.c (.int .i64 1)))))⟩, ⟨none, (.mov 9 (.t 56))⟩]
def f11r14o0 : AI := ⟨none, (.load 58 4 true (.t 2))⟩
def f11r14o1 : AI := ⟨none, (.mov 59 (.t 9))⟩
def f11r14o2 : AI := ⟨none, (.bin 60 .add (.v (.k (.c (.int .i64 2)))) (.t 59))⟩
def f11r14o3 : AI := ⟨none, (.mov 61 (.t 8))⟩
def f11r14o4 : AI := ⟨none, (.mov 62 (.t 9))⟩
def f11r14o5 : AI := ⟨none, (.bin 63 .mul (.t 62) (.v (.k (.c (.int .i64 16)))))⟩
def f11r14o6 : AI := ⟨none, (.mov 64 (.t 9))⟩
def f11r14o7 : AI := ⟨none, (.bin 65 .add (.t 64) (.v (.k (.c (.int .i64 1)))))⟩
def f11r14o8 : AI := ⟨none, (.bin 66 .mul (.t 65) (.v (.k (.c (.int .i64 16)))))⟩
def f11r14o9 : AI := ⟨none, (.mov 67 (.t 8))⟩
def f11r14o10 : AI := ⟨none, (.lenS 68 (.t 67))⟩
def f11r14o11 : AI := ⟨none, (.minmax 69 false (.t 66) [(.t 68)])⟩
def f11r14o12 : AI := ⟨none, (.slstr 70 (.t 61) (some (.t 63)) (some (.t 69)))⟩
def f11r14o13 : AI := ⟨none, (.call (some 71) 28 [(.t 58), (.t 60), (.t 70)])⟩
def f11r14o14 : AI := ⟨none, (.mov 57 (.t 71))⟩
def f11r14o15 : AI := ⟨none, (.extr 72 (.t 57) 0)⟩
def f11r14o16 : AI := ⟨none, (.extr 73 (.t 57) 1)⟩
def f11r14o17 : AI := ⟨none, (.store 4 (.t 2) (.t 72))⟩
def f11r14 : List AI := [f11r14o0, f11r14o1, f11r14o2, f11r14o3, f11r14o4, f11r14o5, f11r14o6, f11r14o7, f11r14o8, f11r14o9, f11r14o10, f11r14o11, f11r14o12, f11r14o13, f11r14o14, f11r14o15, f11r14o16, f11r14o17]
theorem utf11r14 : treeOf f11r14 [[], [], [1], [], [], [4], [], [6], [7], [], [9], [8, 10], [3, 5, 11], [0, 2, 12], [13], [14], [14], [15, 13, 0, 1, 2, 3, 4, 5, 6, 7, 8, 9, 10, 11, 12, 13, 14, 15]] = (.one f11r14o0 (.one f11r14o1 (.one f11r14o2 (.one f11r14o3 (.one f11r14o4 (.one f11r14o5 (.one f11r14o6 (.one f11r14o7 (.one f11r14o8 (.one f11r14o9 (.one f11r14o10 (.one f11r14o11 (.one f11r14o12 (.one f11r14o13 (.one f11r14o14 (.one f11r14o15 (.alt (.one f11r14o16 (.one f11r14o17 .done)) (.alt (.one f11r14o17 (.one f11r14o16 .done)) .top)))))))))))))))))) := by kernel_rfl
def f11b15 : AQ := (.block 2 (.tree f11r14 [[], [], [1], [], [], [4], [], [6], [7], [], [9], [8, 10], [3, 5, 11], [0, 2, 12], [13], [14], [14], [15, 13, 0, 1, 2, 3, 4, 5, 6, 7, 8, 9, 10, 11, 12, 13, 14, 15]]))
def f11b16 : AQ := (.seq f11b15 (.region f11r13))
def f11b17 : AQ := (.cond (.t 54) .skip (.exit 1))
def f11r18 : List AI := [⟨none, (.mov 50 (.t 9))⟩, ⟨none, (.bin 51 .mul (.t 50) (.v (.k (.c (.int .i64 16)))))⟩, ⟨none, (.mov 52 (.t 8))⟩, ⟨none, (.lenS 53 (.t 52))⟩, ⟨none, (.bin 54 .lss (.t 51) (.t 53))⟩]
def f11b19 : AQ := (.seq (.region f11r18) f11b17)
def f11b20 : AQ := (.seq f11b19 f11b16)
def f11l21 : AQ := .loop [2, 4, 6, 8, 9] [2, 4, 6, 12, 71, 76, 91, 95, 13000, 13001, 13002, 72000, 72001, 72002, 77000, 77001, 77002, 92000, 92001, 92002, 96000, 96001, 96002] f11b20
theorem uf11l21 (P ts os Q) : awl P f11l21 Q ts os = awl P (.loop [2, 4, 6, 8, 9] [2, 4, 6, 12, 71, 76, 91, 95, 13000, 13001, 13002, 72000, 72001, 72002, 77000, 77001, 77002, 92000, 92001, 92002, 96000, 96001, 96002] f11b20) Q ts os := id rfl
def f11b22 : AQ := (.block 1 f11l21)
def f11r23 : List AI := [⟨none, (.faddr 46 1 (.t 6))⟩, ⟨none, (.load 47 1 false (.t 46))⟩, ⟨none, (.lenS 48 (.t 47))⟩, ⟨none, (.bin 49 .quo (.t 48) (.v (.k (.c (.int .i64 16)))))⟩, ⟨none, (.mov 9 (.t 49))⟩]
def f11b24 : AQ := (.seq (.region f11r23) f11b22)
def f11b25 : AQ := (.seq f11b24 f11b12)
def f11r26 : List AI := [⟨none, (.build 23 [(.list 0 (some true) []), (.list 0 (some true) []), (.int .i64 0), (.bool false)] [])⟩, ⟨none, (.mov 24 (.t 7))⟩, ⟨none, (.store 4 (.t 4) (.t 23))⟩, ⟨none, (.mov 5 (.t 24))⟩]
def f11b27 : AQ := (.seq (.region f11r26) .ret)
def f11r28 : List AI := [⟨none, (.build 29 [(.list 0 (some true) []), (.list 0 (some true) []), (.int .i64 0), (.bool false)] [])⟩, ⟨none, (.store 4 (.t 4) (.t 29))⟩, ⟨none, (.mov 5 (.v (.k (.c (.int .i64 1)))))⟩]
def f11b29 : AQ := (.seq (.region f11r28) .ret)
def f11r30 : List AI := [⟨none, (.build 45 [(.list 0 (some true) []), (.list 0 (some true) []), (.int .i64 0), (.bool false)] [])⟩, ⟨none, (.store 4 (.t 4) (.t 45))⟩, ⟨none, (.mov 5 (.v (.k (.c (.int .i64 6)))))⟩]
def f11b31 : AQ := (.seq (.region f11r30) .ret)
def f11b32 : AQ := (.cond (.t 30) f11b31 .skip)
def f11r33 : List AI := [⟨none, (.faddr 31 0 (.t 6))⟩, ⟨none, (.load 32 1 false (.t 31))⟩, ⟨none, (.len 33 (.t 32))⟩, ⟨none, (.bin 34 .eql (.t 33) (.v (.k (.c (.int .i64 500)))))⟩, ⟨none, (.mov 35 (.t 34))⟩, ⟨(some (35, false)), (.mov 36 (.t 8))⟩, ⟨(some (35, false)), (.lenS 37 (.t 36))⟩, ⟨(some (35, false)), (.faddr 38 0 (.t 2))⟩, ⟨(some (35, false)), (.load 39 1 false (.t 38))⟩, ⟨(some (35, false)), (.len 40 (.t 39))⟩, ⟨(some (35, false)), (.bin 41 .sub (.t 40) (.v (.k (.c (.int .i64 2)))))⟩, ⟨(some (35, false)), (.bin 42 .mul (.t 41) (.v (.k (.c (.int .i64 16)))))⟩, ⟨(some (35, false)), (.bin 43 .gtr (.t 37) (.t 42))⟩, ⟨none, (.pick 44 (.t 35) (.v (.k (.c (.bool true)))) (.t 43))⟩, ⟨none, (.mov 30 (.t 44))⟩]
def f11b34 : AQ := (.seq (.region f11r33) f11b32)
def f11b35 : AQ := (.cond (.t 25) f11b29 f11b34)
def f11r36 : List AI := [⟨none, (.mov 26 (.t 1))⟩, ⟨none, (.lenS 27 (.t 26))⟩, ⟨none, (.bin 28 .gtr (.t 27) (.v (.k (.c (.int .i64 2000)))))⟩, ⟨none, (.mov 25 (.t 28))⟩]
def f11b37 : AQ := (.seq (.region f11r36) f11b35)
def f11b38 : AQ := (.cond (.t 20) f11b27 f11b37)
def f11r39 : List AI := [⟨none, (.mov 21 (.t 7))⟩, ⟨none, (.bin 22 .neq (.t 21) (.v (.k (.c (.int .i64 0)))))⟩, ⟨none, (.mov 20 (.t 22))⟩]
def f11b40 : AQ := (.seq (.region f11r39) f11b38)
def f11b41 : AQ := (.block 0 f11b40)
def f11b42 : AQ := (.seq f11b41 f11b25)
def f11r43 : List AI := [⟨none, (.faddr 15 1 (.t 6))⟩, ⟨none, (.load 16 1 false (.t 15))⟩, ⟨none, (.mov 17 (.t 1))⟩, ⟨none, (.call (some 18) 12 [(.t 17)])⟩, ⟨none, (.bin 19 .add (.t 16) (.t 18))⟩, ⟨none, (.mov 8 (.t 19))⟩]
def f11b44 : AQ := (.seq (.draw f11r43 [[], [0], [], [2], [1, 3], [4, 3, 0, 1, 2, 3, 4]]) f11b42)
def f11r45 : List AI := [⟨none, (.load 11 4 true (.t 2))⟩, ⟨none, (.call (some 12) 27 [(.t 11)])⟩, ⟨none, (.mov 10 (.t 12))⟩, ⟨none, (.extr 13 (.t 10) 0)⟩, ⟨none, (.extr 14 (.t 10) 1)⟩, ⟨none, (.alloc 6 53 [(.list 0 (some true) []), (.str []), (.int .i64 0)])⟩, ⟨none, (.store 3 (.t 6) (.t 13))⟩, ⟨none, (.mov 7 (.t 14))⟩]
def f11b46 : AQ := (.seq (.region f11r45) f11b44)
def f11r47 : List AI := [⟨none, (.box 2 27 (.t 0))⟩, ⟨none, (.alloc 4 27 [(.list 0 (some true) []), (.list 0 (some true) []), (.int .i64 0), (.bool false)])⟩, ⟨none, (.mov 5 (.v (.k (.c (.int .i64 0)))))⟩]
def f11b48 : AQ := (.seq (.region f11r47) f11b46)
def f11 : AQ := f11b48
theorem hf11 : cFunc Tryd.prog 11 = some ⟨98, f11.erase, [(RX.cell 4 4 true), (RX.t 5)]⟩ := by kernel_rfl
theorem okf11 : f11.ok = true := by kernel_rfl
def f12r1 : List AI := [⟨none, (.mov 3 (.t 0))⟩, ⟨none, (.lenS 4 (.t 3))⟩, ⟨none, (.call (some 5) 31 [(.t 4)])⟩, ⟨none, (.mov 6 (.t 0))⟩, ⟨none, (.bin 7 .add (.t 5) (.t 6))⟩, ⟨none, (.mov 2 (.t 7))⟩]
def f12b2 : AQ := (.seq (.region f12r1) .ret)
def f12r3 : List AI := [⟨none, (.mov 2 (.v (.k (.c (.str [])))))⟩]
def f12b4 : AQ := (.seq (.region f12r3) f12b2)
def f12 : AQ := f12b4
theorem hf12 : cFunc Tryd.prog 12 = some ⟨8, f12.erase, [(RX.t 2)]⟩ := by kernel_rfl
theorem okf12 : f12.ok = true := by kernel_rfl
def f13r1 : List AI := [⟨none, (.mov 19 (.t 3))⟩, ⟨none, (.mov 2 (.t 19))⟩]
def f13b2 : AQ := (.seq (.region f13r1) .ret)
def f13r3 : List AI := [⟨none, (.mov 10 (.t 4))⟩, ⟨none, (.bin 11 .add (.t 10) (.v (.k (.c (.int .i64 1)))))⟩, ⟨none, (.mov 4 (.t 11))⟩]
def f13r4 : List AI := [⟨none, (.mov 12 (.t 3))⟩, ⟨none, (.faddr 13 0 (.t 1))⟩, ⟨none, (.load 14 1 false (.t 13))⟩, ⟨none, (.mov 15 (.t 4))⟩, ⟨none, (.iaddr 16 1 (.t 14) (.t 15))⟩, ⟨none, (.load 17 1 false (.t 16))⟩, ⟨none, (.bin 18 .add (.t 12) (.t 17))⟩, ⟨none, (.mov 3 (.t 18))⟩]
def f13b5 : AQ := (.block 1 (.region f13r4))
def f13b6 : AQ := (.seq f13b5 (.region f13r3))
def f13b7 : AQ := (.cond (.t 9) .skip (.exit 0))
def f13r8 : List AI := [⟨none, (.mov 5 (.t 4))⟩, ⟨none, (.faddr 6 0 (.t 1))⟩, ⟨none, (.load 7 1 false (.t 6))⟩, ⟨none, (.len 8 (.t 7))⟩, ⟨none, (.bin 9 .lss (.t 5) (.t 8))⟩]
def f13b9 : AQ := (.seq (.region f13r8) f13b7)
def f13b10 : AQ := (.seq f13b9 f13b6)
def f13l11 : AQ := .loop [1, 3, 4] [1] f13b10
theorem uf13l11 (P ts os Q) : awl P f13l11 Q ts os = awl P (.loop [1, 3, 4] [1] f13b10) Q ts os := id rfl
def f13b12 : AQ := (.block 0 f13l11)
def f13r13 : List AI := [⟨none, (.mov 4 (.v (.k (.c (.int .i64 2)))))⟩]
def f13b14 : AQ := (.seq (.region f13r13) f13b12)
def f13b15 : AQ := (.seq f13b14 f13b2)
def f13r16 : List AI := [⟨none, (.mov 3 (.v (.k (.c (.str [])))))⟩]
def f13b17 : AQ := (.seq (.region f13r16) f13b15)
def f13r18 : List AI := [⟨none, (.box 1 27 (.t 0))⟩, ⟨none, (.mov 2 (.v (.k (.c (.str [])))))⟩]
def f13b19 : AQ := (.seq (.region f13r18) f13b17)
def f13 : AQ := f13b19
theorem hf13 : cFunc Tryd.prog 13 = some ⟨20, f13.erase, [(RX.t 2)]⟩ := by kernel_rfl
theorem okf13 : f13.ok = true := by kernel_rfl
def f14r1 : List AI := [⟨none, (.mov 21 (.t 3))⟩, ⟨none, (.mov 22 (.t 3))⟩, ⟨none, (.bin 23 .add (.t 21) (.t 22))⟩, ⟨none, (.mov 2 (.t 23))⟩]
def f14b2 : AQ := (.seq (.region f14r1) .ret)
def f14r3 : List AI := [⟨none, (.mov 8 (.t 4))⟩, ⟨none, (.bin 9 .add (.t 8) (.v (.k (.c (.int .i64 1)))))⟩, ⟨none, (.mov 4 (.t 9))⟩]
def f14r4 : List AI := [⟨none, (.mov 19 (.t 0))⟩, ⟨none, (.bin 20 .quo (.t 19) (.v (.k (.c (.int .i64 10)))))⟩, ⟨none, (.mov 0 (.t 20))⟩]
def f14r5 : List AI := [⟨none, (.mov 10 (.t 5))⟩, ⟨none, (.mov 11 (.t 0))⟩, ⟨none, (.bin 12 .rem (.t 11) (.v (.k (.c (.int .i64 10)))))⟩, ⟨none, (.mov 13 (.t 0))⟩, ⟨none, (.bin 14 .rem (.t 13) (.v (.k (.c (.int .i64 10)))))⟩, ⟨none, (.bin 15 .add (.t 14) (.v (.k (.c (.int .i64 1)))))⟩, ⟨none, (.slstr 16 (.t 10) (some (.t 12)) (some (.t 15)))⟩, ⟨none, (.mov 17 (.t 3))⟩, ⟨none, (.bin 18 .add (.t 16) (.t 17))⟩, ⟨none, (.mov 3 (.t 18))⟩]
def f14b6 : AQ := (.seq (.region f14r5) (.region f14r4))
def f14r7 : List AI := [⟨none, (.mov 5 (.v (.k (.c (.str [48, 49, 50, 51, 52, 53, 54, 55, 56, 57])))))⟩]
def f14b8 : AQ := (.seq (.region f14r7) f14b6)
def f14b9 : AQ := (.block 1 f14b8)
def f14b10 : AQ := (.seq f14b9 (.region f14r3))
def f14b11 : AQ := (.cond (.t 7) .skip (.exit 0))
def f14r12 : List AI := [⟨none, (.mov 6 (.t 4))⟩, ⟨none, (.bin 7 .lss (.t 6) (.v (.k (.c (.int .i64 8)))))⟩]
def f14b13 : AQ := (.seq (.region f14r12) f14b11)
def f14b14 : AQ := (.seq f14b13 f14b10)
def f14l15 : AQ := .loop [0, 3, 4] [] f14b14
theorem uf14l15 (P ts os Q) : awl P f14l15 Q ts os = awl P (.loop [0, 3, 4] [] f14b14) Q ts os := id rfl
def f14b16 : AQ := (.block 0 f14l15)
def f14r17 : List AI := [⟨none, (.mov 4 (.v (.k (.c (.int .i64 0)))))⟩]
def f14b18 : AQ := (.seq (.region f14r17) f14b16)
def f14b19 : AQ := (.seq f14b18 f14b2)
def f14r20 : List AI := [⟨none, (.mov 3 (.v (.k (.c (.str [])))))⟩]
def f14b21 : AQ := (.seq (.region f14r20) f14b19)
def f14r22 : List AI := [⟨none, (.mov 2 (.v (.k (.c (.str [])))))⟩]
def f14b23 : AQ := (.seq (.region f14r22) f14b21)
def f14 : AQ := f14b23
theorem hf14 : cFunc Tryd.prog 14 = some ⟨24, f14.erase, [(RX.t 2)]⟩ := by kernel_rfl
theorem okf14 : f14.ok = true := by kernel_rfl
def f15r1 : List AI := [⟨none, (.mov 40 (.t 3))⟩, ⟨none, (.mov 2 (.t 40))⟩]
def f15b2 : AQ := (.seq (.region f15r1) .ret)
def f15r3 : List AI := [⟨none, (.mov 10 (.t 4))⟩, ⟨none, (.bin 11 .add (.t 10) (.v (.k (.c (.int .i64 1)))))⟩, ⟨none, (.mov 4 (.t 11))⟩]
def f15r4 : List AI := [⟨none, (.mov 32 (.t 3))⟩, ⟨none, (.bin 33 .mul (.v (.k (.c (.int .i64 10)))) (.t 32))⟩, ⟨none, (.mov 34 (.t 0))⟩, ⟨none, (.mov 35 (.t 4))⟩, ⟨none, (.sidx 36 (.t 34) (.t 35))⟩, ⟨none, (.conv 37 .i64 (.t 36))⟩, ⟨none, (.bin 38 .add (.t 33) (.t 37))⟩, ⟨none, (.bin 39 .sub (.t 38) (.v (.k (.c (.int .i64 48)))))⟩, ⟨none, (.mov 3 (.t 39))⟩]
def f15r5 : List AI := [⟨none, (.mov 2 (.v (.k (.c (.int .i64 (-1))))))⟩]
def f15b6 : AQ := (.seq (.region f15r5) .ret)
def f15b7 : AQ := (.cond (.t 31) f15b6 .skip)
def f15r8 : List AI := [⟨none, (.mov 12 (.t 0))⟩, ⟨none, (.mov 13 (.t 4))⟩, ⟨none, (.sidx 14 (.t 12) (.t 13))⟩, ⟨none, (.bin 15 .lss (.t 14) (.v (.k (.c (.int .u8 48)))))⟩, ⟨none, (.mov 16 (.t 15))⟩, ⟨(some (16, false)), (.mov 17 (.t 0))⟩, ⟨(some (16, false)), (.mov 18 (.t 4))⟩, ⟨(some (16, false)), (.sidx 19 (.t 17) (.t 18))⟩, ⟨(some (16, false)), (.bin 20 .gtr (.t 19) (.v (.k (.c (.int .u8 57)))))⟩, ⟨none, (.pick 21 (.t 16) (.v (.k (.c (.bool true)))) (.t 20))⟩, ⟨none, (.mov 22 (.t 21))⟩, ⟨(some (22, false)), (.mov 23 (.t 0))⟩, ⟨(some (22, false)), (.mov 24 (.t 4))⟩, ⟨(some (22, false)), (.sidx 25 (.t 23) (.t 24))⟩, ⟨(some (22, false)), (.mov 26 (.t 0))⟩, ⟨(some (22, false)), (.mov 27 (.t 4))⟩, ⟨(some (22, false)), (.bin 28 .add (.t 27) (.v (.k (.c (.int .i64 8)))))⟩, ⟨(some (22, false)), (.sidx 29 (.t 26) (.t 28))⟩, ⟨(some (22, false)), (.bin 30 .neq (.t 25) (.t 29))⟩, ⟨none, (.pick 31 (.t 22) (.v (.k (.c (.bool true)))) (.t 30))⟩]
def f15b9 : AQ := (.seq (.draw f15r8 [[], [], [0, 1], [2], [3], [4], [4], [5, 6, 4], [7, 4], [4, 8], [9, 4], [10], [10], [11, 12, 10], [10], [10], [15, 10], [14, 16, 10], [13, 17, 10], [10, 18]]) f15b7)
def f15b10 : AQ := (.seq f15b9 (.region f15r4))
def f15b11 : AQ := (.block 1 f15b10)
def f15b12 : AQ := (.seq f15b11 (.region f15r3))
def f15b13 : AQ := (.cond (.t 9) .skip (.exit 0))
def f15r14 : List AI := [⟨none, (.mov 8 (.t 4))⟩, ⟨none, (.bin 9 .lss (.t 8) (.v (.k (.c (.int .i64 8)))))⟩]
def f15b15 : AQ := (.seq (.region f15r14) f15b13)
def f15b16 : AQ := (.seq f15b15 f15b12)
def f15l17 : AQ := .loop [0, 3, 4] [] f15b16
theorem uf15l17 (P ts os Q) : awl P f15l17 Q ts os = awl P (.loop [0, 3, 4] [] f15b16) Q ts os := id rfl
def f15b18 : AQ := (.block 0 f15l17)
def f15r19 : List AI := [⟨none, (.mov 4 (.v (.k (.c (.int .i64 0)))))⟩]
def f15b20 : AQ := (.seq (.region f15r19) f15b18)
def f15b21 : AQ := (.seq f15b20 f15b2)
def f15r22 : List AI := [⟨none, (.mov 3 (.v (.k (.c (.int .i64 0)))))⟩]
def f15b23 : AQ := (.seq (.region f15r22) f15b21)
def f15r24 : List AI := [⟨none, (.mov 2 (.v (.k (.c (.int .i64 (-1))))))⟩]
def f15b25 : AQ := (.seq (.region f15r24) .ret)
def f15b26 : AQ := (.cond (.t 7) f15b25 .skip)
def f15r27 : List AI := [⟨none, (.mov 5 (.t 0))⟩, ⟨none, (.lenS 6 (.t 5))⟩, ⟨none, (.bin 7 .neq (.t 6) (.v (.k (.c (.int .i64 16)))))⟩]
def f15b28 : AQ := (.seq (.region f15r27) f15b26)
def f15b29 : AQ := (.seq f15b28 f15b23)
def f15r30 : List AI := [⟨none, (.mov 2 (.v (.k (.c (.int .i64 0)))))⟩]
def f15b31 : AQ := (.seq (.region f15r30) f15b29)
def f15 : AQ := f15b31
theorem hf15 : cFunc Tryd.prog 15 = some ⟨41, f15.erase, [(RX.t 2)]⟩ := by kernel_rfl
theorem okf15 : f15.ok = true := by kernel_rfl
def f16r1 : List AI := [⟨none, (.load 25 4 true (.t 4))⟩, ⟨none, (.store 4 (.t 2) (.t 25))⟩, ⟨none, (.mov 3 (.v (.k (.c (.int .i64 0)))))⟩]
def f16b2 : AQ := (.seq (.region f16r1) .ret)
def f16r3 : List AI := [⟨none, (.mov 17 (.t 5))⟩, ⟨none, (.bin 18 .add (.t 17) (.v (.k (.c (.int .i64 1)))))⟩, ⟨none, (.mov 5 (.t 18))⟩]
def f16r4 : List AI := [⟨none, (.faddr 19 0 (.t 4))⟩, ⟨none, (.load 20 1 false (.t 19))⟩, ⟨none, (.call (some 21) 32 [(.v (.k (.c (.int .i64 16))))])⟩, ⟨none, (.bslice 22 9 1 [(.str [])] 1 [(0, (.t 21))])⟩, ⟨none, (.append 23 9 1 16 (.t 20) (.t 22))⟩, ⟨none, (.faddr 24 0 (.t 4))⟩, ⟨none, (.store 1 (.t 24) (.t 23))⟩]
def f16b5 : AQ := (.block 1 (.draw f16r4 [[], [0], [], [2], [1, 3, 2], [0, 1, 2, 3, 4], [5, 4, 4, 0, 1, 2, 3, 4]]))
def f16b6 : AQ := (.seq f16b5 (.region f16r3))
def f16b7 : AQ := (.cond (.t 16) .skip (.exit 0))
def f16r8 : List AI := [⟨none, (.mov 14 (.t 5))⟩, ⟨none, (.mov 15 (.t 0))⟩, ⟨none, (.bin 16 .lss (.t 14) (.t 15))⟩]
def f16b9 : AQ := (.seq (.region f16r8) f16b7)
def f16b10 : AQ := (.seq f16b9 f16b6)
def f16l11 : AQ := .loop [0, 2, 4, 5] [2, 4, 23] f16b10
theorem uf16l11 (P ts os Q) : awl P f16l11 Q ts os = awl P (.loop [0, 2, 4, 5] [2, 4, 23] f16b10) Q ts os := id rfl
def f16b12 : AQ := (.block 0 f16l11)
def f16r13 : List AI := [⟨none, (.mov 5 (.v (.k (.c (.int .i64 0)))))⟩]
def f16b14 : AQ := (.seq (.region f16r13) f16b12)
def f16b15 : AQ := (.seq f16b14 f16b2)
def f16r16 : List AI := [(AI.mk none (.build 13 [(.list 0 (some true) []), (.list 0 (some true) []), (.int .i64 0), (.bool false)] [(2, (1, (.v (.k (.c (.int .i64 (-1)))))))])), ⟨none, (.alloc 4 27 [(.list 0 (some true) []), (.list 0 (some true) []), (.int .i64 0), (.bool false)])⟩, ⟨none, (.store 4 (.t 4) (.t 13))⟩]
def f16b17 : AQ := (.seq (.region f16r16) f16b15)
def f16r18 : List AI := [⟨none, (.build 12 [(.list 0 (some true) []), (.list 0 (some true) []), (.int .i64 0), (.bool false)] [])⟩, ⟨none, (.store 4 (.t 2) (.t 12))⟩, ⟨none, (.mov 3 (.v (.k (.c (.int .i64 1)))))⟩]
def f16b19 : AQ := (.seq (.region f16r18) .ret)
def f16b20 : AQ := (.cond (.t 11) f16b19 .skip)
def f16r21 : List AI := [⟨none, (.mov 6 (.t 0))⟩, ⟨none, (.bin 7 .lss (.t 6) (.v (.k (.c (.int .i64 1)))))⟩, ⟨none, (.mov 8 (.t 7))⟩, ⟨(some (8, false)), (.mov 9 (.t 0))⟩, ⟨(some (8, false)), (.bin 10 .gtr (.t 9) (.v (.k (.c (.int .i64 512)))))⟩, ⟨none, (.pick 11 (.t 8) (.v (.k (.c (.bool true)))) (.t 10))⟩]
def f16b22 : AQ := (.seq (.region f16r21) f16b20)
def f16b23 : AQ := (.seq f16b22 f16b17)
def f16r24 : List AI := [⟨none, (.alloc 2 27 [(.list 0 (some true) []), (.list 0 (some true) []), (.int .i64 0), (.bool false)])⟩, ⟨none, (.mov 3 (.v (.k (.c (.int .i64 0)))))⟩]
def f16b25 : AQ := (.seq (.region f16r24) f16b23)
def f16 : AQ := f16b25
theorem hf16 : cFunc Tryd.prog 16 = some ⟨26, f16.erase, [(RX.cell 2 4 true), (RX.t 3)]⟩ := by kernel_rfl
theorem okf16 : f16.ok = true := by kernel_rfl
def f17r1 : List AI := [⟨none, (.load 28 4 true (.t 1))⟩, ⟨none, (.call (some 29) 29 [(.t 28)])⟩, ⟨none, (.extr 30 (.t 29) 0)⟩, ⟨none, (.extr 31 (.t 29) 1)⟩, ⟨none, (.store 4 (.t 2) (.t 30))⟩, ⟨none, (.mov 3 (.t 31))⟩]
def f17b2 : AQ := (.seq (.region f17r1) .ret)
def f17r3 : List AI := [⟨none, (.bin 27 .add (.t 17) (.v (.k (.c (.int .i64 1)))))⟩, ⟨none, (.mov 17 (.t 27))⟩]
def f17r4o0 : AI := ⟨none, (.load 21 4 true (.t 1))⟩
def f17r4o1 : AI := ⟨none, (.mov 22 (.t 5))⟩
def f17r4o2 : AI := ⟨none, (.call (some 23) 30 [(.v (.k (.c (.int .i64 0))))])⟩
def f17r4o3 : AI := ⟨none, (.call (some 24) 28 [(.t 21), (.t 22), (.t 23)])⟩
def f17r4o4 : AI := ⟨none, (.mov 20 (.t 24))⟩
def f17r4o5 : AI := ⟨none, (.extr 25 (.t 20) 0)⟩
def f17r4o6 : AI := ⟨none, (.extr 26 (.t 20) 1)⟩
def f17r4o7 : AI := ⟨none, (.store 4 (.t 1) (.t 25))⟩
def f17r4 : List AI := [f17r4o0, f17r4o1, f17r4o2, f17r4o3, f17r4o4, f17r4o5, f17r4o6, f17r4o7]
theorem utf17r4 : treeOf f17r4 [[], [], [], [0, 1, 2, 2], [3], [4], [4], [5, 3, 0, 1, 2, 3, 4, 5]] = (.one f17r4o0 (.one f17r4o1 (.one f17r4o2 (.one f17r4o3 (.one f17r4o4 (.one f17r4o5 (.alt (.one f17r4o6 (.one f17r4o7 .done)) (.alt (.one f17r4o7 (.one f17r4o6 .done)) .top)))))))) := by kernel_rfl
def f17r5 : List AI := [⟨none, (.mov 19 (.t 17))⟩, ⟨none, (.mov 5 (.t 19))⟩]
def f17b6 : AQ := (.seq (.region f17r5) (.tree f17r4 [[], [], [], [0, 1, 2, 2], [3], [4], [4], [5, 3, 0, 1, 2, 3, 4, 5]]))
def f17b7 : AQ := (.block 1 f17b6)
def f17b8 : AQ := (.seq f17b7 (.region f17r3))
def f17b9 : AQ := (.cond (.t 18) .skip (.exit 0))
def f17b10 : AQ := (.seq f17b9 f17b8)
def f17r11 : List AI := [⟨none, (.bin 18 .lss (.t 17) (.v (.k (.c (.int .i64 2)))))⟩]
def f17b12 : AQ := (.seq (.region f17r11) f17b10)
def f17l13 : AQ := .loop [1, 2, 17] [1, 2, 24, 29, 25000, 25001, 25002, 30000, 30001, 30002] f17b12
theorem uf17l13 (P ts os Q) : awl P f17l13 Q ts os = awl P (.loop [1, 2, 17] [1, 2, 24, 29, 25000, 25001, 25002, 30000, 30001, 30002] f17b12) Q ts os := id rfl
def f17b14 : AQ := (.block 0 f17l13)
def f17r15 : List AI := [⟨none, (.mov 17 (.v (.k (.c (.int .i64 0)))))⟩]
def f17b16 : AQ := (.seq (.region f17r15) f17b14)
def f17b17 : AQ := (.seq f17b16 f17b2)
def f17r18 : List AI := [⟨none, (.build 16 [(.list 0 (some true) []), (.list 0 (some true) []), (.int .i64 0), (.bool false)] [])⟩, ⟨none, (.store 4 (.t 2) (.t 16))⟩, ⟨none, (.mov 3 (.v (.k (.c (.int .i64 6)))))⟩]
def f17b19 : AQ := (.seq (.region f17r18) .ret)
def f17b20 : AQ := (.cond (.t 15) f17b19 .skip)
def f17r21 : List AI := [⟨none, (.faddr 12 0 (.t 1))⟩, ⟨none, (.load 13 1 false (.t 12))⟩, ⟨none, (.len 14 (.t 13))⟩, ⟨none, (.bin 15 .leq (.t 14) (.v (.k (.c (.int .i64 2)))))⟩]
def f17b22 : AQ := (.seq (.region f17r21) f17b20)
def f17b23 : AQ := (.seq f17b22 f17b17)
def f17r24 : List AI := [⟨none, (.build 10 [(.list 0 (some true) []), (.list 0 (some true) []), (.int .i64 0), (.bool false)] [])⟩, ⟨none, (.mov 11 (.t 4))⟩, ⟨none, (.store 4 (.t 2) (.t 10))⟩, ⟨none, (.mov 3 (.t 11))⟩]
def f17b25 : AQ := (.seq (.region f17r24) .ret)
def f17b26 : AQ := (.cond (.t 9) f17b25 .skip)
def f17r27 : List AI := [⟨none, (.mov 8 (.t 4))⟩, ⟨none, (.bin 9 .neq (.t 8) (.v (.k (.c (.int .i64 0)))))⟩]
def f17b28 : AQ := (.seq (.region f17r27) f17b26)
def f17r29 : List AI := [⟨none, (.load 6 4 true (.t 1))⟩, ⟨none, (.call (some 7) 33 [(.t 6)])⟩, ⟨none, (.mov 4 (.t 7))⟩]
def f17b30 : AQ := (.seq (.region f17r29) f17b28)
def f17b31 : AQ := (.seq f17b30 f17b23)
def f17r32 : List AI := [⟨none, (.box 1 27 (.t 0))⟩, ⟨none, (.alloc 2 27 [(.list 0 (some true) []), (.list 0 (some true) []), (.int .i64 0), (.bool false)])⟩, ⟨none, (.mov 3 (.v (.k (.c (.int .i64 0)))))⟩]
def f17b33 : AQ := (.seq (.region f17r32) f17b31)
def f17 : AQ := f17b33
theorem hf17 : cFunc Tryd.prog 17 = some ⟨32, f17.erase, [(RX.cell 2 4 true), (RX.t 3)]⟩ := by kernel_rfl
theorem okf17 : f17.ok = true := by kernel_rfl
def f18r1 : List AI := [⟨none, (.load 11 4 true (.t 1))⟩, ⟨none, (.call (some 12) 36 [(.t 11)])⟩, ⟨none, (.call (some 13) 35 [(.t 12)])⟩, ⟨none, (.store 4 (.t 2) (.t 13))⟩, ⟨none, (.mov 3 (.v (.k (.c (.int .i64 0)))))⟩]
def f18b2 : AQ := (.seq (.region f18r1) .ret)
def f18r3 : List AI := [⟨none, (.build 9 [(.list 0 (some true) []), (.list 0 (some true) []), (.int .i64 0), (.bool false)] [])⟩, ⟨none, (.mov 10 (.t 4))⟩, ⟨none, (.store 4 (.t 2) (.t 9))⟩, ⟨none, (.mov 3 (.t 10))⟩]
def f18b4 : AQ := (.seq (.region f18r3) .ret)
def f18b5 : AQ := (.cond (.t 8) f18b4 .skip)
def f18r6 : List AI := [⟨none, (.mov 7 (.t 4))⟩, ⟨none, (.bin 8 .neq (.t 7) (.v (.k (.c (.int .i64 0)))))⟩]
def f18b7 : AQ := (.seq (.region f18r6) f18b5)
def f18r8 : List AI := [⟨none, (.load 5 4 true (.t 1))⟩, ⟨none, (.call (some 6) 34 [(.t 5)])⟩, ⟨none, (.mov 4 (.t 6))⟩]
def f18b9 : AQ := (.seq (.region f18r8) f18b7)
def f18b10 : AQ := (.seq f18b9 f18b2)
def f18r11 : List AI := [⟨none, (.box 1 27 (.t 0))⟩, ⟨none, (.alloc 2 27 [(.list 0 (some true) []), (.list 0 (some true) []), (.int .i64 0), (.bool false)])⟩, ⟨none, (.mov 3 (.v (.k (.c (.int .i64 0)))))⟩]
def f18b12 : AQ := (.seq (.region f18r11) f18b10)
def f18 : AQ := f18b12
theorem hf18 : cFunc Tryd.prog 18 = some ⟨14, f18.erase, [(RX.cell 2 4 true), (RX.t 3)]⟩ := by kernel_rfl
theorem okf18 : f18.ok = true := by kernel_rfl
def f19r1 : List AI := [⟨none, (.load 15 4 true (.t 1))⟩, ⟨none, (.store 4 (.t 2) (.t 15))⟩, ⟨none, (.mov 3 (.v (.k (.c (.int .i64 0)))))⟩]
def f19b2 : AQ := (.seq (.region f19r1) .ret)
def f19r3 : List AI := [⟨none, (.faddr 14 3 (.t 1))⟩, ⟨none, (.store 1 (.t 14) (.v (.k (.c (.bool false)))))⟩]
def f19b4 : AQ := (.seq (.region f19r3) f19b2)
def f19r5 : List AI := [⟨none, (.load 12 4 true (.t 1))⟩, ⟨none, (.call (some 13) 36 [(.t 12)])⟩, ⟨none, (.store 4 (.t 1) (.t 13))⟩]
def f19b6 : AQ := (.seq (.region f19r5) f19b4)
def f19r7 : List AI := [⟨none, (.build 11 [(.list 0 (some true) []), (.list 0 (some true) []), (.int .i64 0), (.bool false)] [])⟩, ⟨none, (.store 4 (.t 2) (.t 11))⟩, ⟨none, (.mov 3 (.v (.k (.c (.int .i64 7)))))⟩]
def f19b8 : AQ := (.seq (.region f19r7) .ret)
def f19b9 : AQ := (.cond (.t 10) f19b8 .skip)
def f19r10 : List AI := [⟨none, (.faddr 8 3 (.t 1))⟩, ⟨none, (.load 9 1 false (.t 8))⟩, ⟨none, (.un 10 .not (.t 9))⟩]
def f19b11 : AQ := (.seq (.region f19r10) f19b9)
def f19b12 : AQ := (.seq f19b11 f19b6)
def f19r13 : List AI := [⟨none, (.build 7 [(.list 0 (some true) []), (.list 0 (some true) []), (.int .i64 0), (.bool false)] [])⟩, ⟨none, (.store 4 (.t 2) (.t 7))⟩, ⟨none, (.mov 3 (.v (.k (.c (.int .i64 1)))))⟩]
def f19b14 : AQ := (.seq (.region f19r13) .ret)
def f19b15 : AQ := (.cond (.t 6) f19b14 .skip)
def f19r16 : List AI := [⟨none, (.load 4 4 true (.t 1))⟩, ⟨none, (.call (some 5) 37 [(.t 4)])⟩, ⟨none, (.un 6 .not (.t 5))⟩]
def f19b17 : AQ := (.seq (.region f19r16) f19b15)
def f19b18 : AQ := (.seq f19b17 f19b12)
def f19r19 : List AI := [⟨none, (.box 1 27 (.t 0))⟩, ⟨none, (.alloc 2 27 [(.list 0 (some true) []), (.list 0 (some true) []), (.int .i64 0), (.bool false)])⟩, ⟨none, (.mov 3 (.v (.k (.c (.int .i64 0)))))⟩]
def f19b20 : AQ := (.seq (.region f19r19) f19b18)
def f19 : AQ := f19b20
theorem hf19 : cFunc Tryd.prog 19 = some ⟨16, f19.erase, [(RX.cell 2 4 true), (RX.t 3)]⟩ := by kernel_rfl
theorem okf19 : f19.ok = true := by kernel_rfl
def f20r1 : List AI := [⟨none, (.faddr 11 0 (.t 4))⟩, ⟨none, (.load 12 1 false (.t 11))⟩, ⟨none, (.mov 13 (.t 5))⟩, ⟨none, (.mov 2 (.t 12))⟩, ⟨none, (.mov 3 (.t 13))⟩]
def f20b2 : AQ := (.seq (.region f20r1) .ret)
def f20r3 : List AI := [⟨none, (.load 7 4 true (.t 1))⟩, ⟨none, (.call (some 8) 27 [(.t 7)])⟩, ⟨none, (.mov 6 (.t 8))⟩, ⟨none, (.extr 9 (.t 6) 0)⟩, ⟨none, (.extr 10 (.t 6) 1)⟩, ⟨none, (.alloc 4 53 [(.list 0 (some true) []), (.str []), (.int .i64 0)])⟩, ⟨none, (.store 3 (.t 4) (.t 9))⟩, ⟨none, (.mov 5 (.t 10))⟩]
def f20b4 : AQ := (.seq (.region f20r3) f20b2)
def f20r5 : List AI := [⟨none, (.box 1 27 (.t 0))⟩, ⟨none, (.nilL 2 9 1)⟩, ⟨none, (.mov 3 (.v (.k (.c (.int .i64 0)))))⟩]
def f20b6 : AQ := (.seq (.region f20r5) f20b4)
def f20 : AQ := f20b6
theorem hf20 : cFunc Tryd.prog 20 = some ⟨14, f20.erase, [(RX.t 2), (RX.t 3)]⟩ := by kernel_rfl
theorem okf20 : f20.ok = true := by kernel_rfl
def f21r1 : List AI := [⟨none, (.mov 4 (.v (.k (.c (.bool true)))))⟩]
def f21b2 : AQ := (.seq (.region f21r1) .ret)
def f21r3 : List AI := [⟨none, (.mov 15 (.t 5))⟩, ⟨none, (.bin 16 .add (.t 15) (.v (.k (.c (.int .i64 1)))))⟩, ⟨none, (.mov 5 (.t 16))⟩]
def f21r4 : List AI := [⟨none, (.mov 4 (.v (.k (.c (.bool false)))))⟩]
def f21b5 : AQ := (.seq (.region f21r4) .ret)
def f21b6 : AQ := (.cond (.t 25) f21b5 .skip)
def f21r7 : List AI := [⟨none, (.mov 17 (.t 0))⟩, ⟨none, (.mov 18 (.t 5))⟩, ⟨none, (.iaddr 19 1 (.t 17) (.t 18))⟩, ⟨none, (.load 20 1 false (.t 19))⟩, ⟨none, (.mov 21 (.t 1))⟩, ⟨none, (.mov 22 (.t 5))⟩, ⟨none, (.iaddr 23 1 (.t 21) (.t 22))⟩, ⟨none, (.load 24 1 false (.t 23))⟩, ⟨none, (.bin 25 .neq (.t 20) (.t 24))⟩]
def f21b8 : AQ := (.seq (.draw f21r7 [[], [], [0, 1], [2], [], [], [4, 5], [6], [3, 7]]) f21b6)
def f21b9 : AQ := (.block 1 f21b8)
def f21b10 : AQ := (.seq f21b9 (.region f21r3))
def f21b11 : AQ := (.cond (.t 14) .skip (.exit 0))
def f21r12 : List AI := [⟨none, (.mov 11 (.t 5))⟩, ⟨none, (.mov 12 (.t 0))⟩, ⟨none, (.len 13 (.t 12))⟩, ⟨none, (.bin 14 .lss (.t 11) (.t 13))⟩]
def f21b13 : AQ := (.seq (.region f21r12) f21b11)
def f21b14 : AQ := (.seq f21b13 f21b10)
def f21l15 : AQ := .loop [0, 1, 5] [] f21b14
theorem uf21l15 (P ts os Q) : awl P f21l15 Q ts os = awl P (.loop [0, 1, 5] [] f21b14) Q ts os := id rfl
def f21b16 : AQ := (.block 0 f21l15)
def f21r17 : List AI := [⟨none, (.mov 5 (.v (.k (.c (.int .i64 0)))))⟩]
def f21b18 : AQ := (.seq (.region f21r17) f21b16)
def f21b19 : AQ := (.seq f21b18 f21b2)
def f21r20 : List AI := [⟨none, (.mov 4 (.v (.k (.c (.bool false)))))⟩]
def f21b21 : AQ := (.seq (.region f21r20) .ret)
def f21b22 : AQ := (.cond (.t 10) f21b21 .skip)
def f21r23 : List AI := [⟨none, (.mov 6 (.t 0))⟩, ⟨none, (.len 7 (.t 6))⟩, ⟨none, (.mov 8 (.t 1))⟩, ⟨none, (.len 9 (.t 8))⟩, ⟨none, (.bin 10 .neq (.t 7) (.t 9))⟩]
def f21b24 : AQ := (.seq (.region f21r23) f21b22)
def f21b25 : AQ := (.seq f21b24 f21b19)
def f21r26 : List AI := [⟨none, (.mov 4 (.v (.k (.c (.bool false)))))⟩]
def f21b27 : AQ := (.seq (.region f21r26) f21b25)
def f21 : AQ := f21b27
theorem hf21 : cFunc Tryd.prog 21 = some ⟨26, f21.erase, [(RX.t 4)]⟩ := by kernel_rfl
theorem okf21 : f21.ok = true := by kernel_rfl
def f22r1 : List AI := [⟨none, (.faddr 29 0 (.t 6))⟩, ⟨none, (.load 30 1 false (.t 29))⟩, ⟨none, (.mov 31 (.t 1))⟩, ⟨none, (.iaddr 32 1 (.t 30) (.t 31))⟩, ⟨none, (.load 33 1 false (.t 32))⟩, ⟨none, (.mov 4 (.t 33))⟩, ⟨none, (.mov 5 (.v (.k (.c (.int .i64 0)))))⟩]
def f22b2 : AQ := (.seq (.region f22r1) .ret)
def f22r3 : List AI := [⟨none, (.mov 28 (.t 7))⟩, ⟨none, (.mov 4 (.v (.k (.c (.str [])))))⟩, ⟨none, (.mov 5 (.t 28))⟩]
def f22b4 : AQ := (.seq (.region f22r3) .ret)
def f22b5 : AQ := (.cond (.t 27) f22b4 .skip)
def f22r6 : List AI := [⟨none, (.mov 26 (.t 7))⟩, ⟨none, (.bin 27 .neq (.t 26) (.v (.k (.c (.int .i64 0)))))⟩]
def f22b7 : AQ := (.seq (.region f22r6) f22b5)
def f22b8 : AQ := (.seq f22b7 f22b2)
def f22r9 : List AI := [⟨none, (.mov 7 (.v (.k (.c (.int .i64 4)))))⟩]
def f22b10 : AQ := (.cond (.t 25) (.region f22r9) .skip)
def f22r11 : List AI := [⟨none, (.mov 13 (.t 7))⟩, ⟨none, (.bin 14 .eql (.t 13) (.v (.k (.c (.int .i64 0)))))⟩, ⟨none, (.mov 15 (.t 14))⟩, ⟨(some (15, true)), (.mov 16 (.t 1))⟩, ⟨(some (15, true)), (.bin 17 .lss (.t 16) (.v (.k (.c (.int .i64 0)))))⟩, ⟨(some (15, true)), (.mov 18 (.t 17))⟩, ⟨(some (18, false)), (.mov 19 (.t 1))⟩, ⟨(some (18, false)), (.faddr 20 0 (.t 6))⟩, ⟨(some (18, false)), (.load 21 1 false (.t 20))⟩, ⟨(some (18, false)), (.len 22 (.t 21))⟩, ⟨(some (18, false)), (.bin 23 .geq (.t 19) (.t 22))⟩, ⟨(some (15, true)), (.pick 24 (.t 18) (.v (.k (.c (.bool true)))) (.t 23))⟩, ⟨none, (.pick 25 (.t 15) (.t 24) (.v (.k (.c (.bool false)))))⟩]
def f22b12 : AQ := (.seq (.region f22r11) f22b10)
def f22b13 : AQ := (.seq f22b12 f22b8)
def f22r14 : List AI := [⟨none, (.load 9 4 true (.t 2))⟩, ⟨none, (.call (some 10) 27 [(.t 9)])⟩, ⟨none, (.mov 8 (.t 10))⟩, ⟨none, (.extr 11 (.t 8) 0)⟩, ⟨none, (.extr 12 (.t 8) 1)⟩, ⟨none, (.alloc 6 53 [(.list 0 (some true) []), (.str []), (.int .i64 0)])⟩, ⟨none, (.store 3 (.t 6) (.t 11))⟩, ⟨none, (.mov 7 (.t 12))⟩]
def f22b15 : AQ := (.seq (.region f22r14) f22b13)
def f22r16 : List AI := [⟨none, (.box 2 27 (.t 0))⟩, ⟨none, (.mov 4 (.v (.k (.c (.str [])))))⟩, ⟨none, (.mov 5 (.v (.k (.c (.int .i64 0)))))⟩]
def f22b17 : AQ := (.seq (.region f22r16) f22b15)
def f22 : AQ := f22b17
theorem hf22 : cFunc Tryd.prog 22 = some ⟨34, f22.erase, [(RX.t 4), (RX.t 5)]⟩ := by kernel_rfl
theorem okf22 : f22.ok = true := by kernel_rfl
def f24r1 : List AI := [⟨none, (.faddr 11 0 (.t 4))⟩, ⟨none, (.load 12 1 false (.t 11))⟩, ⟨none, (.len 13 (.t 12))⟩, ⟨none, (.mov 14 (.t 5))⟩, ⟨none, (.mov 2 (.t 13))⟩, ⟨none, (.mov 3 (.t 14))⟩]
def f24b2 : AQ := (.seq (.region f24r1) .ret)
def f24r3 : List AI := [⟨none, (.load 7 4 true (.t 1))⟩, ⟨none, (.call (some 8) 27 [(.t 7)])⟩, ⟨none, (.mov 6 (.t 8))⟩, ⟨none, (.extr 9 (.t 6) 0)⟩, ⟨none, (.extr 10 (.t 6) 1)⟩, ⟨none, (.alloc 4 53 [(.list 0 (some true) []), (.str []), (.int .i64 0)])⟩, ⟨none, (.store 3 (.t 4) (.t 9))⟩, ⟨none, (.mov 5 (.t 10))⟩]
def f24b4 : AQ := (.seq (.region f24r3) f24b2)
def f24r5 : List AI := [⟨none, (.box 1 27 (.t 0))⟩, ⟨none, (.mov 2 (.v (.k (.c (.int .i64 0)))))⟩, ⟨none, (.mov 3 (.v (.k (.c (.int .i64 0)))))⟩]
def f24b6 : AQ := (.seq (.region f24r5) f24b4)
def f24 : AQ := f24b6
theorem hf24 : cFunc Tryd.prog 24 = some ⟨15, f24.erase, [(RX.t 2), (RX.t 3)]⟩ := by kernel_rfl
theorem okf24 : f24.ok = true := by kernel_rfl
def f25r1 : List AI := [⟨none, (.load 22 4 true (.t 2))⟩, ⟨none, (.store 4 (.t 4) (.t 22))⟩, ⟨none, (.mov 5 (.v (.k (.c (.int .i64 0)))))⟩]
def f25b2 : AQ := (.seq (.region f25r1) .ret)
def f25r3 : List AI := [⟨none, (.mov 20 (.t 1))⟩, ⟨none, (.faddr 21 2 (.t 2))⟩, ⟨none, (.store 1 (.t 21) (.t 20))⟩]
def f25b4 : AQ := (.seq (.region f25r3) f25b2)
def f25r5 : List AI := [⟨none, (.build 19 [(.list 0 (some true) []), (.list 0 (some true) []), (.int .i64 0), (.bool false)] [])⟩, ⟨none, (.store 4 (.t 4) (.t 19))⟩, ⟨none, (.mov 5 (.v (.k (.c (.int .i64 1)))))⟩]
def f25b6 : AQ := (.seq (.region f25r5) .ret)
def f25b7 : AQ := (.cond (.t 18) f25b6 .skip)
def f25r8 : List AI := [⟨none, (.mov 13 (.t 1))⟩, ⟨none, (.bin 14 .lss (.t 13) (.v (.k (.c (.int .i64 0)))))⟩, ⟨none, (.mov 15 (.t 14))⟩, ⟨(some (15, false)), (.mov 16 (.t 1))⟩, ⟨(some (15, false)), (.bin 17 .gtr (.t 16) (.v (.k (.c (.int .i64 512)))))⟩, ⟨none, (.pick 18 (.t 15) (.v (.k (.c (.bool true)))) (.t 17))⟩]
def f25b9 : AQ := (.seq (.region f25r8) f25b7)
def f25b10 : AQ := (.seq f25b9 f25b4)
def f25r11 : List AI := [⟨none, (.build 11 [(.list 0 (some true) []), (.list 0 (some true) []), (.int .i64 0), (.bool false)] [])⟩, ⟨none, (.mov 12 (.t 6))⟩, ⟨none, (.store 4 (.t 4) (.t 11))⟩, ⟨none, (.mov 5 (.t 12))⟩]
def f25b12 : AQ := (.seq (.region f25r11) .ret)
def f25b13 : AQ := (.cond (.t 10) f25b12 .skip)
def f25r14 : List AI := [⟨none, (.mov 9 (.t 6))⟩, ⟨none, (.bin 10 .neq (.t 9) (.v (.k (.c (.int .i64 0)))))⟩]
def f25b15 : AQ := (.seq (.region f25r14) f25b13)
def f25b16 : AQ := (.seq f25b15 f25b10)
def f25r17 : List AI := [⟨none, (.load 7 4 true (.t 2))⟩, ⟨none, (.call (some 8) 38 [(.t 7)])⟩, ⟨none, (.mov 6 (.t 8))⟩]
def f25b18 : AQ := (.seq (.region f25r17) f25b16)
def f25r19 : List AI := [⟨none, (.box 2 27 (.t 0))⟩, ⟨none, (.alloc 4 27 [(.list 0 (some true) []), (.list 0 (some true) []), (.int .i64 0), (.bool false)])⟩, ⟨none, (.mov 5 (.v (.k (.c (.int .i64 0)))))⟩]
def f25b20 : AQ := (.seq (.region f25r19) f25b18)
def f25 : AQ := f25b20
theorem hf25 : cFunc Tryd.prog 25 = some ⟨23, f25.erase, [(RX.cell 4 4 true), (RX.t 5)]⟩ := by kernel_rfl
theorem okf25 : f25.ok = true := by kernel_rfl
def f26r1 : List AI := [⟨none, (.load 13 4 true (.t 1))⟩, ⟨none, (.store 4 (.t 2) (.t 13))⟩, ⟨none, (.mov 3 (.v (.k (.c (.int .i64 0)))))⟩]
def f26b2 : AQ := (.seq (.region f26r1) .ret)
def f26r3 : List AI := [⟨none, (.faddr 12 3 (.t 1))⟩, ⟨none, (.store 1 (.t 12) (.v (.k (.c (.bool false)))))⟩]
def f26b4 : AQ := (.seq (.region f26r3) f26b2)
def f26r5 : List AI := [⟨none, (.build 11 [(.list 0 (some true) []), (.list 0 (some true) []), (.int .i64 0), (.bool false)] [])⟩, ⟨none, (.store 4 (.t 2) (.t 11))⟩, ⟨none, (.mov 3 (.v (.k (.c (.int .i64 7)))))⟩]
def f26b6 : AQ := (.seq (.region f26r5) .ret)
def f26b7 : AQ := (.cond (.t 10) f26b6 .skip)
def f26r8 : List AI := [⟨none, (.faddr 8 3 (.t 1))⟩, ⟨none, (.load 9 1 false (.t 8))⟩, ⟨none, (.un 10 .not (.t 9))⟩]
def f26b9 : AQ := (.seq (.region f26r8) f26b7)
def f26b10 : AQ := (.seq f26b9 f26b4)
def f26r11 : List AI := [⟨none, (.build 7 [(.list 0 (some true) []), (.list 0 (some true) []), (.int .i64 0), (.bool false)] [])⟩, ⟨none, (.store 4 (.t 2) (.t 7))⟩, ⟨none, (.mov 3 (.v (.k (.c (.int .i64 1)))))⟩]
def f26b12 : AQ := (.seq (.region f26r11) .ret)
def f26b13 : AQ := (.cond (.t 6) f26b12 .skip)
def f26r14 : List AI := [⟨none, (.load 4 4 true (.t 1))⟩, ⟨none, (.call (some 5) 39 [(.t 4)])⟩, ⟨none, (.bin 6 .neq (.t 5) (.v (.k (.c (.int .i64 0)))))⟩]
def f26b15 : AQ := (.seq (.region f26r14) f26b13)
def f26b16 : AQ := (.seq f26b15 f26b10)
def f26r17 : List AI := [⟨none, (.box 1 27 (.t 0))⟩, ⟨none, (.alloc 2 27 [(.list 0 (some true) []), (.list 0 (some true) []), (.int .i64 0), (.bool false)])⟩, ⟨none, (.mov 3 (.v (.k (.c (.int .i64 0)))))⟩]
def f26b18 : AQ := (.seq (.region f26r17) f26b16)
def f26 : AQ := f26b18
theorem hf26 : cFunc Tryd.prog 26 = some ⟨14, f26.erase, [(RX.cell 2 4 true), (RX.t 3)]⟩ := by kernel_rfl
theorem okf26 : f26.ok = true := by kernel_rfl
def f27r1 : List AI := [⟨none, (.load 106 3 true (.t 5))⟩, ⟨none, (.store 3 (.t 2) (.t 106))⟩, ⟨none, (.mov 3 (.v (.k (.c (.int .i64 0)))))⟩]
def f27b2 : AQ := (.seq (.region f27r1) .ret)
def f27r3 : List AI := [⟨none, (.faddr 99 0 (.t 5))⟩, ⟨none, (.load 100 1 false (.t 99))⟩, ⟨none, (.mov 101 (.t 12))⟩, ⟨none, (.bslice 102 9 1 [(.str [])] 1 [(0, (.t 101))])⟩, ⟨none, (.append 103 9 1 16 (.t 100) (.t 102))⟩, ⟨none, (.mov 104 (.t 13))⟩, ⟨none, (.faddr 105 0 (.t 5))⟩, ⟨none, (.store 1 (.t 105) (.t 103))⟩, ⟨none, (.mov 11 (.t 104))⟩]
def f27r4 : List AI := [⟨none, (.build 98 [(.list 0 (some true) []), (.str []), (.int .i64 0)] [])⟩, ⟨none, (.store 3 (.t 2) (.t 98))⟩, ⟨none, (.mov 3 (.v (.k (.c (.int .i64 22)))))⟩]
def f27b5 : AQ := (.seq (.region f27r4) .ret)
def f27b6 : AQ := (.cond (.t 97) f27b5 .skip)
def f27r7 : List AI := [⟨none, (.mov 85 (.t 14))⟩, ⟨none, (.un 86 .not (.t 85))⟩, ⟨none, (.mov 87 (.t 86))⟩, ⟨(some (87, false)), (.mov 88 (.t 12))⟩, ⟨(some (87, false)), (.lenS 89 (.t 88))⟩, ⟨(some (87, false)), (.bin 90 .gtr (.t 89) (.v (.k (.c (.int .i64 2000)))))⟩, ⟨none, (.pick 91 (.t 87) (.v (.k (.c (.bool true)))) (.t 90))⟩, ⟨none, (.mov 92 (.t 91))⟩, ⟨(some (92, false)), (.faddr 93 0 (.t 5))⟩, ⟨(some (92, false)), (.load 94 1 false (.t 93))⟩, ⟨(some (92, false)), (.len 95 (.t 94))⟩, ⟨(some (92, false)), (.bin 96 .eql (.t 95) (.v (.k (.c (.int .i64 500)))))⟩, ⟨none, (.pick 97 (.t 92) (.v (.k (.c (.bool true)))) (.t 96))⟩]
def f27b8 : AQ := (.seq (.region f27r7) f27b6)
def f27b9 : AQ := (.seq f27b8 (.region f27r3))
def f27r10 : List AI := [⟨none, (.mov 80 (.t 11))⟩, ⟨none, (.call (some 81) 42 [(.t 80)])⟩, ⟨none, (.mov 79 (.t 81))⟩, ⟨none, (.extr 82 (.t 79) 0)⟩, ⟨none, (.extr 83 (.t 79) 1)⟩, ⟨none, (.extr 84 (.t 79) 2)⟩, ⟨none, (.mov 12 (.t 82))⟩, ⟨none, (.mov 13 (.t 83))⟩, ⟨none, (.mov 14 (.t 84))⟩]
def f27b11 : AQ := (.seq (.region f27r10) f27b9)
def f27b12 : AQ := (.block 1 f27b11)
def f27b13 : AQ := (.cond (.t 78) .skip (.exit 0))
def f27r14 : List AI := [⟨none, (.mov 77 (.t 11))⟩, ⟨none, (.bin 78 .neq (.t 77) (.v (.k (.c (.str [])))))⟩]
def f27b15 : AQ := (.seq (.region f27r14) f27b13)
def f27b16 : AQ := (.seq f27b15 f27b12)
def f27l17 : AQ := .loop [2, 5, 11] [2, 5, 103] f27b16
theorem uf27l17 (P ts os Q) : awl P f27l17 Q ts os = awl P (.loop [2, 5, 11] [2, 5, 103] f27b16) Q ts os := id rfl
def f27b18 : AQ := (.block 0 f27l17)
def f27r19 : List AI := [⟨none, (.faddr 75 1 (.t 5))⟩, ⟨none, (.load 76 1 false (.t 75))⟩, ⟨none, (.mov 11 (.t 76))⟩]
def f27b20 : AQ := (.seq (.region f27r19) f27b18)
def f27b21 : AQ := (.seq f27b20 f27b2)
def f27r22 : List AI := [⟨none, (.mov 71 (.t 10))⟩, ⟨none, (.mov 72 (.t 6))⟩, ⟨none, (.slstr 73 (.t 71) none (some (.t 72)))⟩, ⟨none, (.faddr 74 1 (.t 5))⟩, ⟨none, (.store 1 (.t 74) (.t 73))⟩]
def f27b23 : AQ := (.seq (.region f27r22) f27b21)
def f27r24 : List AI := [⟨none, (.build 70 [(.list 0 (some true) []), (.str []), (.int .i64 0)] [])⟩, ⟨none, (.store 3 (.t 2) (.t 70))⟩, ⟨none, (.mov 3 (.v (.k (.c (.int .i64 22)))))⟩]
def f27b25 : AQ := (.seq (.region f27r24) .ret)
def f27b26 : AQ := (.cond (.t 69) f27b25 .skip)
def f27r27 : List AI := [⟨none, (.mov 58 (.t 7))⟩, ⟨none, (.un 59 .not (.t 58))⟩, ⟨none, (.mov 60 (.t 59))⟩, ⟨(some (60, true)), (.mov 61 (.t 9))⟩, ⟨(some (60, true)), (.un 62 .not (.t 61))⟩, ⟨none, (.pick 63 (.t 60) (.t 62) (.v (.k (.c (.bool false)))))⟩, ⟨none, (.mov 64 (.t 63))⟩, ⟨(some (64, false)), (.mov 65 (.t 6))⟩, ⟨(some (64, false)), (.mov 66 (.t 10))⟩, ⟨(some (64, false)), (.lenS 67 (.t 66))⟩, ⟨(some (64, false)), (.bin 68 .gtr (.t 65) (.t 67))⟩, ⟨none, (.pick 69 (.t 64) (.v (.k (.c (.bool true)))) (.t 68))⟩]
def f27b28 : AQ := (.seq (.region f27r27) f27b26)
def f27b29 : AQ := (.seq f27b28 f27b23)
def f27r30 : List AI := [⟨none, (.faddr 54 0 (.t 1))⟩, ⟨none, (.load 55 1 false (.t 54))⟩, ⟨none, (.slice 56 1 (.t 55) (some (.v (.k (.c (.int .i64 2))))) none)⟩, ⟨none, (.call (some 57) 41 [(.t 56), (.v (.k (.c (.str []))))])⟩, ⟨none, (.mov 10 (.t 57))⟩]
def f27b31 : AQ := (.seq (.region f27r30) f27b29)
def f27r32 : List AI := [⟨none, (.mov 52 (.t 8))⟩, ⟨none, (.mov 6 (.t 52))⟩, ⟨none, (.faddr 53 2 (.t 5))⟩, ⟨none, (.store 1 (.t 53) (.v (.k (.c (.int .i64 1)))))⟩]
def f27b33 : AQ := (.cond (.t 51) (.region f27r32) .skip)
def f27r34 : List AI := [⟨none, (.mov 42 (.t 9))⟩, ⟨none, (.mov 43 (.t 42))⟩, ⟨(some (43, true)), (.mov 44 (.t 7))⟩, ⟨(some (43, true)), (.un 45 .not (.t 44))⟩, ⟨(some (43, true)), (.mov 46 (.t 45))⟩, ⟨(some (46, false)), (.mov 47 (.t 8))⟩, ⟨(some (46, false)), (.mov 48 (.t 6))⟩, ⟨(some (46, false)), (.bin 49 .gtr (.t 47) (.t 48))⟩, ⟨(some (43, true)), (.pick 50 (.t 46) (.v (.k (.c (.bool true)))) (.t 49))⟩, ⟨none, (.pick 51 (.t 43) (.t 50) (.v (.k (.c (.bool false)))))⟩]
def f27b35 : AQ := (.seq (.region f27r34) f27b33)
def f27b36 : AQ := (.seq f27b35 (.keep [1, 2, 5, 6, 7, 9] [1, 2, 5, 103] f27b31))
def f27r37 : List AI := [⟨none, (.faddr 35 0 (.t 1))⟩, ⟨none, (.load 36 1 false (.t 35))⟩, ⟨none, (.iaddr 37 1 (.t 36) (.v (.k (.c (.int .i64 1)))))⟩, ⟨none, (.load 38 1 false (.t 37))⟩, ⟨none, (.call (some 39) 40 [(.t 38)])⟩, ⟨none, (.mov 34 (.t 39))⟩, ⟨none, (.extr 40 (.t 34) 0)⟩, ⟨none, (.extr 41 (.t 34) 1)⟩, ⟨none, (.mov 8 (.t 40))⟩, ⟨none, (.mov 9 (.t 41))⟩]
def f27b38 : AQ := (.seq (.region f27r37) f27b36)
def f27r39 : List AI := [⟨none, (.faddr 27 0 (.t 1))⟩, ⟨none, (.load 28 1 false (.t 27))⟩, ⟨none, (.iaddr 29 1 (.t 28) (.v (.k (.c (.int .i64 0)))))⟩, ⟨none, (.load 30 1 false (.t 29))⟩, ⟨none, (.call (some 31) 40 [(.t 30)])⟩, ⟨none, (.mov 26 (.t 31))⟩, ⟨none, (.extr 32 (.t 26) 0)⟩, ⟨none, (.extr 33 (.t 26) 1)⟩, ⟨none, (.mov 6 (.t 32))⟩, ⟨none, (.mov 7 (.t 33))⟩]
def f27b40 : AQ := (.seq (.region f27r39) f27b38)
def f27r41 : List AI := [⟨none, (.alloc 5 53 [(.list 0 (some true) []), (.str []), (.int .i64 0)])⟩]
def f27b42 : AQ := (.seq (.region f27r41) f27b40)
def f27r43 : List AI := [⟨none, (.build 25 [(.list 0 (some true) []), (.str []), (.int .i64 0)] [])⟩, ⟨none, (.store 3 (.t 2) (.t 25))⟩, ⟨none, (.mov 3 (.v (.k (.c (.int .i64 22)))))⟩]
def f27b44 : AQ := (.seq (.region f27r43) .ret)
def f27b45 : AQ := (.cond (.t 24) f27b44 .skip)
def f27r46 : List AI := [⟨none, (.faddr 21 0 (.t 1))⟩, ⟨none, (.load 22 1 false (.t 21))⟩, ⟨none, (.len 23 (.t 22))⟩, ⟨none, (.bin 24 .leq (.t 23) (.v (.k (.c (.int .i64 2)))))⟩]
def f27b47 : AQ := (.seq (.region f27r46) f27b45)
def f27b48 : AQ := (.seq f27b47 f27b42)
def f27r49 : List AI := [⟨none, (.build 19 [(.list 0 (some true) []), (.str []), (.int .i64 0)] [])⟩, ⟨none, (.mov 20 (.t 4))⟩, ⟨none, (.store 3 (.t 2) (.t 19))⟩, ⟨none, (.mov 3 (.t 20))⟩]
def f27b50 : AQ := (.seq (.region f27r49) .ret)
def f27b51 : AQ := (.cond (.t 18) f27b50 .skip)
def f27r52 : List AI := [⟨none, (.mov 17 (.t 4))⟩, ⟨none, (.bin 18 .neq (.t 17) (.v (.k (.c (.int .i64 0)))))⟩]
def f27b53 : AQ := (.seq (.region f27r52) f27b51)
def f27r54 : List AI := [⟨none, (.load 15 4 true (.t 1))⟩, ⟨none, (.call (some 16) 33 [(.t 15)])⟩, ⟨none, (.mov 4 (.t 16))⟩]
def f27b55 : AQ := (.seq (.region f27r54) f27b53)
def f27b56 : AQ := (.seq f27b55 f27b48)
def f27r57 : List AI := [⟨none, (.box 1 27 (.t 0))⟩, ⟨none, (.alloc 2 53 [(.list 0 (some true) []), (.str []), (.int .i64 0)])⟩, ⟨none, (.mov 3 (.v (.k (.c (.int .i64 0)))))⟩]
def f27b58 : AQ := (.seq (.region f27r57) f27b56)
def f27 : AQ := f27b58
theorem hf27 : cFunc Tryd.prog 27 = some ⟨107, f27.erase, [(RX.cell 2 3 true), (RX.t 3)]⟩ := by kernel_rfl
theorem okf27 : f27.ok = true := by kernel_rfl
def f28r1 : List AI := [⟨none, (.load 50 4 true (.t 3))⟩, ⟨none, (.store 4 (.t 6) (.t 50))⟩, ⟨none, (.mov 7 (.v (.k (.c (.int .i64 0)))))⟩]
def f28b2 : AQ := (.seq (.region f28r1) .ret)
def f28r3 : List AI := [⟨none, (.faddr 37 1 (.t 3))⟩, ⟨none, (.load 38 1 false (.t 37))⟩, ⟨none, (.mov 39 (.t 1))⟩, ⟨none, (.mov 40 (.t 2))⟩, ⟨none, (.mov 41 (.t 2))⟩, ⟨none, (.lenS 42 (.t 41))⟩, ⟨none, (.bin 43 .sub (.v (.k (.c (.int .i64 16)))) (.t 42))⟩, ⟨none, (.call (some 44) 43 [(.v (.k (.c (.str [0])))), (.t 43)])⟩, ⟨none, (.bin 45 .add (.t 40) (.t 44))⟩, ⟨none, (.build 46 [(.int .i64 0), (.str [])] [(0, (1, (.t 39))), (1, (1, (.t 45)))])⟩, ⟨none, (.bslice 47 67 2 [(.int .i64 0), (.str [])] 1 [(0, (.t 46))])⟩, ⟨none, (.append 48 67 2 24 (.t 38) (.t 47))⟩, ⟨none, (.faddr 49 1 (.t 3))⟩, ⟨none, (.store 1 (.t 49) (.t 48))⟩]
def f28b4 : AQ := (.seq (.draw f28r3 [[], [0], [], [], [], [4], [5], [6], [3, 7], [2, 8], [9], [1, 10, 7], [0, 1, 2, 3, 4, 5, 6, 7, 8, 9, 10, 11], [12, 11, 11, 0, 1, 2, 3, 4, 5, 6, 7, 8, 9, 10, 11]]) f28b2)
def f28r5 : List AI := [⟨none, (.load 35 4 true (.t 3))⟩, ⟨none, (.call (some 36) 36 [(.t 35)])⟩, ⟨none, (.store 4 (.t 3) (.t 36))⟩]
def f28b6 : AQ := (.seq (.region f28r5) f28b4)
def f28r7 : List AI := [⟨none, (.build 34 [(.list 0 (some true) []), (.list 0 (some true) []), (.int .i64 0), (.bool false)] [])⟩, ⟨none, (.store 4 (.t 6) (.t 34))⟩, ⟨none, (.mov 7 (.v (.k (.c (.int .i64 6)))))⟩]
def f28b8 : AQ := (.seq (.region f28r7) .ret)
def f28b9 : AQ := (.cond (.t 33) f28b8 .skip)
def f28r10 : List AI := [⟨none, (.faddr 30 1 (.t 3))⟩, ⟨none, (.load 31 1 false (.t 30))⟩, ⟨none, (.len 32 (.t 31))⟩, ⟨none, (.bin 33 .eql (.t 32) (.v (.k (.c (.int .i64 512)))))⟩]
def f28b11 : AQ := (.seq (.region f28r10) f28b9)
def f28b12 : AQ := (.seq f28b11 f28b6)
def f28r13 : List AI := [⟨none, (.build 29 [(.list 0 (some true) []), (.list 0 (some true) []), (.int .i64 0), (.bool false)] [])⟩, ⟨none, (.store 4 (.t 6) (.t 29))⟩, ⟨none, (.mov 7 (.v (.k (.c (.int .i64 1)))))⟩]
def f28b14 : AQ := (.seq (.region f28r13) .ret)
def f28b15 : AQ := (.cond (.t 28) f28b14 .skip)
def f28r16 : List AI := [⟨none, (.mov 15 (.t 1))⟩, ⟨none, (.bin 16 .lss (.t 15) (.v (.k (.c (.int .i64 0)))))⟩, ⟨none, (.mov 17 (.t 16))⟩, ⟨(some (17, false)), (.mov 18 (.t 1))⟩, ⟨(some (17, false)), (.faddr 19 0 (.t 3))⟩, ⟨(some (17, false)), (.load 20 1 false (.t 19))⟩, ⟨(some (17, false)), (.len 21 (.t 20))⟩, ⟨(some (17, false)), (.bin 22 .geq (.t 18) (.t 21))⟩, ⟨none, (.pick 23 (.t 17) (.v (.k (.c (.bool true)))) (.t 22))⟩, ⟨none, (.mov 24 (.t 23))⟩, ⟨(some (24, false)), (.mov 25 (.t 2))⟩, ⟨(some (24, false)), (.lenS 26 (.t 25))⟩, ⟨(some (24, false)), (.bin 27 .gtr (.t 26) (.v (.k (.c (.int .i64 16)))))⟩, ⟨none, (.pick 28 (.t 24) (.v (.k (.c (.bool true)))) (.t 27))⟩]
def f28b17 : AQ := (.seq (.region f28r16) f28b15)
def f28b18 : AQ := (.seq f28b17 f28b12)
def f28r19 : List AI := [⟨none, (.build 13 [(.list 0 (some true) []), (.list 0 (some true) []), (.int .i64 0), (.bool false)] [])⟩, ⟨none, (.mov 14 (.t 8))⟩, ⟨none, (.store 4 (.t 6) (.t 13))⟩, ⟨none, (.mov 7 (.t 14))⟩]
def f28b20 : AQ := (.seq (.region f28r19) .ret)
def f28b21 : AQ := (.cond (.t 12) f28b20 .skip)
def f28r22 : List AI := [⟨none, (.mov 11 (.t 8))⟩, ⟨none, (.bin 12 .neq (.t 11) (.v (.k (.c (.int .i64 0)))))⟩]
def f28b23 : AQ := (.seq (.region f28r22) f28b21)
def f28r24 : List AI := [⟨none, (.load 9 4 true (.t 3))⟩, ⟨none, (.call (some 10) 34 [(.t 9)])⟩, ⟨none, (.mov 8 (.t 10))⟩]
def f28b25 : AQ := (.seq (.region f28r24) f28b23)
def f28b26 : AQ := (.seq f28b25 f28b18)
def f28r27 : List AI := [⟨none, (.box 3 27 (.t 0))⟩, ⟨none, (.alloc 6 27 [(.list 0 (some true) []), (.list 0 (some true) []), (.int .i64 0), (.bool false)])⟩, ⟨none, (.mov 7 (.v (.k (.c (.int .i64 0)))))⟩]
def f28b28 : AQ := (.seq (.region f28r27) f28b26)
def f28 : AQ := f28b28
theorem hf28 : cFunc Tryd.prog 28 = some ⟨51, f28.erase, [(RX.cell 6 4 true), (RX.t 7)]⟩ := by kernel_rfl
theorem okf28 : f28.ok = true := by kernel_rfl
def f29r1 : List AI := [⟨none, (.load 85 4 true (.t 1))⟩, ⟨none, (.store 4 (.t 2) (.t 85))⟩, ⟨none, (.mov 3 (.v (.k (.c (.int .i64 0)))))⟩]
def f29b2 : AQ := (.seq (.region f29r1) .ret)
def f29r3 : List AI := [⟨none, (.faddr 80 2 (.t 1))⟩, ⟨none, (.load 81 1 false (.t 80))⟩, ⟨none, (.mov 82 (.t 5))⟩, ⟨none, (.bin 83 .sub (.t 81) (.t 82))⟩, ⟨none, (.faddr 84 2 (.t 1))⟩, ⟨none, (.store 1 (.t 84) (.t 83))⟩]
def f29b4 : AQ := (.cond (.t 79) (.region f29r3) .skip)
def f29r5 : List AI := [⟨none, (.faddr 77 2 (.t 1))⟩, ⟨none, (.load 78 1 false (.t 77))⟩, ⟨none, (.bin 79 .geq (.t 78) (.v (.k (.c (.int .i64 0)))))⟩]
def f29b6 : AQ := (.seq (.region f29r5) f29b4)
def f29b7 : AQ := (.seq f29b6 f29b2)
def f29r8 : List AI := [⟨none, (.faddr 76 1 (.t 1))⟩, ⟨none, (.store 1 (.t 76) (.v (.k (.c (.list 0 (some true) [])))))⟩]
def f29b9 : AQ := (.seq (.region f29r8) f29b7)
def f29r10 : List AI := [⟨none, (.load 74 4 true (.t 1))⟩, ⟨none, (.call (some 75) 35 [(.t 74)])⟩, ⟨none, (.store 4 (.t 2) (.t 75))⟩, ⟨none, (.mov 3 (.v (.k (.c (.int .i64 8)))))⟩]
def f29b11 : AQ := (.seq (.region f29r10) .ret)
def f29r12 : List AI := [⟨none, (.faddr 58 0 (.t 1))⟩, ⟨none, (.load 59 1 false (.t 58))⟩, ⟨none, (.faddr 60 0 (.t 9))⟩, ⟨none, (.load 61 1 false (.t 60))⟩, ⟨none, (.faddr 62 1 (.t 9))⟩, ⟨none, (.load 63 1 false (.t 62))⟩, ⟨none, (.slstr 64 (.t 63) none (some (.v (.k (.c (.int .i64 8))))))⟩, ⟨none, (.faddr 65 0 (.t 1))⟩, ⟨none, (.load 66 1 false (.t 65))⟩, ⟨none, (.faddr 67 0 (.t 9))⟩, ⟨none, (.load 68 1 false (.t 67))⟩, ⟨none, (.iaddr 69 1 (.t 66) (.t 68))⟩, ⟨none, (.load 70 1 false (.t 69))⟩, ⟨none, (.slstr 71 (.t 70) (some (.v (.k (.c (.int .i64 8))))) none)⟩, ⟨none, (.bin 72 .add (.t 64) (.t 71))⟩, ⟨none, (.iaddr 73 1 (.t 59) (.t 61))⟩, ⟨none, (.store 1 (.t 73) (.t 72))⟩]
def f29b13 : AQ := (.seq (.draw f29r12 [[], [0], [], [2], [], [4], [5], [], [7], [], [9], [8, 10], [11], [12], [6, 13], [1, 3, 0, 1, 2, 3, 4, 5, 6, 7, 8, 9, 10, 11, 12, 13, 14], [15, 14, 0, 1, 2, 3, 4, 5, 6, 7, 8, 9, 10, 11, 12, 13, 14]]) f29b11)
def f29r14 : List AI := [⟨none, (.faddr 53 1 (.t 1))⟩, ⟨none, (.load 54 1 false (.t 53))⟩, ⟨none, (.mov 55 (.t 5))⟩, ⟨none, (.iaddr 56 2 (.t 54) (.t 55))⟩, ⟨none, (.load 57 2 true (.t 56))⟩, ⟨none, (.alloc 9 67 [(.int .i64 0), (.str [])])⟩, ⟨none, (.store 2 (.t 9) (.t 57))⟩]
def f29b15 : AQ := (.seq (.region f29r14) f29b13)
def f29b16 : AQ := (.cond (.t 52) f29b15 .skip)
def f29r17 : List AI := [⟨none, (.mov 51 (.t 6))⟩, ⟨none, (.un 52 .not (.t 51))⟩]
def f29b18 : AQ := (.seq (.region f29r17) f29b16)
def f29b19 : AQ := (.seq f29b18 f29b9)
def f29r20 : List AI := [⟨none, (.bin 50 .add (.t 39) (.v (.k (.c (.int .i64 1)))))⟩, ⟨none, (.mov 39 (.t 50))⟩]
def f29r21 : List AI := [⟨none, (.faddr 43 0 (.t 1))⟩, ⟨none, (.load 44 1 false (.t 43))⟩, ⟨none, (.faddr 45 0 (.t 8))⟩, ⟨none, (.load 46 1 false (.t 45))⟩, ⟨none, (.faddr 47 1 (.t 8))⟩, ⟨none, (.load 48 1 false (.t 47))⟩, ⟨none, (.iaddr 49 1 (.t 44) (.t 46))⟩, ⟨none, (.store 1 (.t 49) (.t 48))⟩]
def f29r22 : List AI := [⟨none, (.iaddr 41 2 (.t 37) (.t 39))⟩, ⟨none, (.load 42 2 true (.t 41))⟩, ⟨none, (.alloc 8 67 [(.int .i64 0), (.str [])])⟩, ⟨none, (.store 2 (.t 8) (.t 42))⟩]
def f29b23 : AQ := (.seq (.region f29r22) (.region f29r21))
def f29b24 : AQ := (.block 1 f29b23)
def f29b25 : AQ := (.seq f29b24 (.region f29r20))
def f29b26 : AQ := (.cond (.t 40) .skip (.exit 0))
def f29b27 : AQ := (.seq f29b26 f29b25)
def f29r28 : List AI := [⟨none, (.bin 40 .lss (.t 39) (.t 38))⟩]
def f29b29 : AQ := (.seq (.region f29r28) f29b27)
def f29l30 : AQ := .loop [1, 2, 5, 6, 37, 38, 39] [1, 2, 17, 75, 18000, 18001, 18002, 76000, 76001, 76002] f29b29
theorem uf29l30 (P ts os Q) : awl P f29l30 Q ts os = awl P (.loop [1, 2, 5, 6, 37, 38, 39] [1, 2, 17, 75, 18000, 18001, 18002, 76000, 76001, 76002] f29b29) Q ts os := id rfl
def f29b31 : AQ := (.block 0 f29l30)
def f29r32 : List AI := [⟨none, (.faddr 34 1 (.t 1))⟩, ⟨none, (.load 35 1 false (.t 34))⟩, ⟨none, (.mov 36 (.t 5))⟩, ⟨none, (.slice 37 2 (.t 35) none (some (.t 36)))⟩, ⟨none, (.len 38 (.t 37))⟩, ⟨none, (.mov 39 (.v (.k (.c (.int .i64 0)))))⟩]
def f29b33 : AQ := (.seq (.region f29r32) f29b31)
def f29b34 : AQ := (.seq f29b33 f29b19)
def f29r35 : List AI := [⟨none, (.faddr 32 2 (.t 1))⟩, ⟨none, (.load 33 1 false (.t 32))⟩, ⟨none, (.mov 5 (.t 33))⟩]
def f29b36 : AQ := (.cond (.t 31) (.region f29r35) .skip)
def f29r37 : List AI := [⟨none, (.mov 30 (.t 6))⟩, ⟨none, (.un 31 .not (.t 30))⟩]
def f29b38 : AQ := (.seq (.region f29r37) f29b36)
def f29b39 : AQ := (.seq f29b38 f29b34)
def f29r40 : List AI := [⟨none, (.faddr 21 2 (.t 1))⟩, ⟨none, (.load 22 1 false (.t 21))⟩, ⟨none, (.bin 23 .eql (.t 22) (.v (.k (.c (.int .i64 (-1))))))⟩, ⟨none, (.mov 24 (.t 23))⟩, ⟨(some (24, false)), (.faddr 25 2 (.t 1))⟩, ⟨(some (24, false)), (.load 26 1 false (.t 25))⟩, ⟨(some (24, false)), (.mov 27 (.t 5))⟩, ⟨(some (24, false)), (.bin 28 .geq (.t 26) (.t 27))⟩, ⟨none, (.pick 29 (.t 24) (.v (.k (.c (.bool true)))) (.t 28))⟩, ⟨none, (.mov 6 (.t 29))⟩]
def f29b41 : AQ := (.seq (.region f29r40) f29b39)
def f29r42 : List AI := [⟨none, (.faddr 18 1 (.t 1))⟩, ⟨none, (.load 19 1 false (.t 18))⟩, ⟨none, (.len 20 (.t 19))⟩, ⟨none, (.mov 5 (.t 20))⟩]
def f29b43 : AQ := (.seq (.region f29r42) f29b41)
def f29r44 : List AI := [⟨none, (.load 16 4 true (.t 1))⟩, ⟨none, (.call (some 17) 36 [(.t 16)])⟩, ⟨none, (.store 4 (.t 1) (.t 17))⟩]
def f29b45 : AQ := (.seq (.region f29r44) (.frz 18001 f29b43))
def f29r46 : List AI := [⟨none, (.build 14 [(.list 0 (some true) []), (.list 0 (some true) []), (.int .i64 0), (.bool false)] [])⟩, ⟨none, (.mov 15 (.t 4))⟩, ⟨none, (.store 4 (.t 2) (.t 14))⟩, ⟨none, (.mov 3 (.t 15))⟩]
def f29b47 : AQ := (.seq (.region f29r46) .ret)
def f29b48 : AQ := (.cond (.t 13) f29b47 .skip)
def f29r49 : List AI := [⟨none, (.mov 12 (.t 4))⟩, ⟨none, (.bin 13 .neq (.t 12) (.v (.k (.c (.int .i64 0)))))⟩]
def f29b50 : AQ := (.seq (.region f29r49) f29b48)
def f29r51 : List AI := [⟨none, (.load 10 4 true (.t 1))⟩, ⟨none, (.call (some 11) 34 [(.t 10)])⟩, ⟨none, (.mov 4 (.t 11))⟩]
def f29b52 : AQ := (.seq (.region f29r51) f29b50)
def f29b53 : AQ := (.seq f29b52 f29b45)
def f29r54 : List AI := [⟨none, (.box 1 27 (.t 0))⟩, ⟨none, (.alloc 2 27 [(.list 0 (some true) []), (.list 0 (some true) []), (.int .i64 0), (.bool false)])⟩, ⟨none, (.mov 3 (.v (.k (.c (.int .i64 0)))))⟩]
def f29b55 : AQ := (.seq (.region f29r54) f29b53)
def f29 : AQ := f29b55
theorem hf29 : cFunc Tryd.prog 29 = some ⟨86, f29.erase, [(RX.cell 2 4 true), (RX.t 3)]⟩ := by kernel_rfl
theorem okf29 : f29.ok = true := by kernel_rfl
def f31r1 : List AI := [⟨none, (.mov 3 (.t 0))⟩, ⟨none, (.call (some 4) 44 [(.t 3)])⟩, ⟨none, (.bin 5 .add (.t 4) (.v (.k (.c (.str [59])))))⟩, ⟨none, (.mov 2 (.t 5))⟩]
def f31b2 : AQ := (.seq (.region f31r1) .ret)
def f31r3 : List AI := [⟨none, (.mov 2 (.v (.k (.c (.str [])))))⟩]
def f31b4 : AQ := (.seq (.region f31r3) f31b2)
def f31 : AQ := f31b4
theorem hf31 : cFunc Tryd.prog 31 = some ⟨6, f31.erase, [(RX.t 2)]⟩ := by kernel_rfl
theorem okf31 : f31.ok = true := by kernel_rfl
def f32r1 : List AI := [⟨none, (.mov 12 (.t 3))⟩, ⟨none, (.mov 2 (.t 12))⟩]
def f32b2 : AQ := (.seq (.region f32r1) .ret)
def f32r3 : List AI := [⟨none, (.mov 8 (.t 4))⟩, ⟨none, (.bin 9 .add (.t 8) (.v (.k (.c (.int .i64 1)))))⟩, ⟨none, (.mov 4 (.t 9))⟩]
def f32r4 : List AI := [⟨none, (.mov 10 (.t 3))⟩, ⟨none, (.bin 11 .add (.t 10) (.v (.k (.c (.str [0])))))⟩, ⟨none, (.mov 3 (.t 11))⟩]
def f32b5 : AQ := (.block 1 (.region f32r4))
def f32b6 : AQ := (.seq f32b5 (.region f32r3))
def f32b7 : AQ := (.cond (.t 7) .skip (.exit 0))
def f32r8 : List AI := [⟨none, (.mov 5 (.t 4))⟩, ⟨none, (.mov 6 (.t 0))⟩, ⟨none, (.bin 7 .lss (.t 5) (.t 6))⟩]
def f32b9 : AQ := (.seq (.region f32r8) f32b7)
def f32b10 : AQ := (.seq f32b9 f32b6)
def f32l11 : AQ := .loop [0, 3, 4] [] f32b10
theorem uf32l11 (P ts os Q) : awl P f32l11 Q ts os = awl P (.loop [0, 3, 4] [] f32b10) Q ts os := id rfl
def f32b12 : AQ := (.block 0 f32l11)
def f32r13 : List AI := [⟨none, (.mov 4 (.v (.k (.c (.int .i64 0)))))⟩]
def f32b14 : AQ := (.seq (.region f32r13) f32b12)
def f32b15 : AQ := (.seq f32b14 f32b2)
def f32r16 : List AI := [⟨none, (.mov 3 (.v (.k (.c (.str [])))))⟩]
def f32b17 : AQ := (.seq (.region f32r16) f32b15)
def f32r18 : List AI := [⟨none, (.mov 2 (.v (.k (.c (.str [])))))⟩]
def f32b19 : AQ := (.seq (.region f32r18) f32b17)
def f32 : AQ := f32b19
theorem hf32 : cFunc Tryd.prog 32 = some ⟨13, f32.erase, [(RX.t 2)]⟩ := by kernel_rfl
theorem okf32 : f32.ok = true := by kernel_rfl
def f33r1 : List AI := [⟨none, (.mov 2 (.v (.k (.c (.int .i64 0)))))⟩]
def f33b2 : AQ := (.seq (.region f33r1) .ret)
def f33r3 : List AI := [⟨none, (.mov 2 (.v (.k (.c (.int .i64 1)))))⟩]
def f33b4 : AQ := (.seq (.region f33r3) .ret)
def f33r5 : List AI := [⟨none, (.mov 2 (.v (.k (.c (.int .i64 8)))))⟩]
def f33b6 : AQ := (.seq (.region f33r5) .ret)
def f33r7 : List AI := [⟨none, (.mov 2 (.v (.k (.c (.int .i64 7)))))⟩]
def f33b8 : AQ := (.seq (.region f33r7) .ret)
def f33b9 : AQ := (.cond (.t 10) f33b8 .skip)
def f33r10 : List AI := [⟨none, (.faddr 11 1 (.t 1))⟩, ⟨none, (.load 12 1 false (.t 11))⟩, ⟨none, (.len 13 (.t 12))⟩, ⟨none, (.bin 14 .gtr (.t 13) (.v (.k (.c (.int .i64 0)))))⟩, ⟨none, (.mov 10 (.t 14))⟩]
def f33b11 : AQ := (.seq (.region f33r10) f33b9)
def f33b12 : AQ := (.cond (.t 7) f33b6 f33b11)
def f33r13 : List AI := [⟨none, (.faddr 8 3 (.t 1))⟩, ⟨none, (.load 9 1 false (.t 8))⟩, ⟨none, (.mov 7 (.t 9))⟩]
def f33b14 : AQ := (.seq (.region f33r13) f33b12)
def f33b15 : AQ := (.cond (.t 3) f33b4 f33b14)
def f33r16 : List AI := [⟨none, (.load 4 4 true (.t 1))⟩, ⟨none, (.call (some 5) 45 [(.t 4)])⟩, ⟨none, (.bin 6 .neq (.t 5) (.v (.k (.c (.int .i64 0)))))⟩, ⟨none, (.mov 3 (.t 6))⟩]
def f33b17 : AQ := (.seq (.region f33r16) f33b15)
def f33b18 : AQ := (.block 0 f33b17)
def f33b19 : AQ := (.seq f33b18 f33b2)
def f33r20 : List AI := [⟨none, (.box 1 27 (.t 0))⟩, ⟨none, (.mov 2 (.v (.k (.c (.int .i64 0)))))⟩]
def f33b21 : AQ := (.seq (.region f33r20) f33b19)
def f33 : AQ := f33b21
theorem hf33 : cFunc Tryd.prog 33 = some ⟨15, f33.erase, [(RX.t 2)]⟩ := by kernel_rfl
theorem okf33 : f33.ok = true := by kernel_rfl
def f34r1 : List AI := [⟨none, (.mov 2 (.v (.k (.c (.int .i64 0)))))⟩]
def f34b2 : AQ := (.seq (.region f34r1) .ret)
def f34r3 : List AI := [⟨none, (.mov 2 (.v (.k (.c (.int .i64 1)))))⟩]
def f34b4 : AQ := (.seq (.region f34r3) .ret)
def f34r5 : List AI := [⟨none, (.mov 2 (.v (.k (.c (.int .i64 8)))))⟩]
def f34b6 : AQ := (.seq (.region f34r5) .ret)
def f34b7 : AQ := (.cond (.t 7) f34b6 .skip)
def f34r8 : List AI := [⟨none, (.faddr 8 3 (.t 1))⟩, ⟨none, (.load 9 1 false (.t 8))⟩, ⟨none, (.mov 7 (.t 9))⟩]
def f34b9 : AQ := (.seq (.region f34r8) f34b7)
def f34b10 : AQ := (.cond (.t 3) f34b4 f34b9)
def f34r11 : List AI := [⟨none, (.load 4 4 true (.t 1))⟩, ⟨none, (.call (some 5) 37 [(.t 4)])⟩, ⟨none, (.un 6 .not (.t 5))⟩, ⟨none, (.mov 3 (.t 6))⟩]
def f34b12 : AQ := (.seq (.region f34r11) f34b10)
def f34b13 : AQ := (.block 0 f34b12)
def f34b14 : AQ := (.seq f34b13 f34b2)
def f34r15 : List AI := [⟨none, (.box 1 27 (.t 0))⟩, ⟨none, (.mov 2 (.v (.k (.c (.int .i64 0)))))⟩]
def f34b16 : AQ := (.seq (.region f34r15) f34b14)
def f34 : AQ := f34b16
theorem hf34 : cFunc Tryd.prog 34 = some ⟨10, f34.erase, [(RX.t 2)]⟩ := by kernel_rfl
theorem okf34 : f34.ok = true := by kernel_rfl
def f35r1 : List AI := [⟨none, (.load 6 4 true (.t 1))⟩, ⟨none, (.store 4 (.t 2) (.t 6))⟩]
def f35b2 : AQ := (.seq (.region f35r1) .ret)
def f35r3 : List AI := [⟨none, (.faddr 3 1 (.t 1))⟩, ⟨none, (.store 1 (.t 3) (.v (.k (.c (.list 0 (some true) [])))))⟩, ⟨none, (.faddr 4 2 (.t 1))⟩, ⟨none, (.store 1 (.t 4) (.v (.k (.c (.int .i64 (-1))))))⟩, ⟨none, (.faddr 5 3 (.t 1))⟩, ⟨none, (.store 1 (.t 5) (.v (.k (.c (.bool true)))))⟩]
def f35b4 : AQ := (.seq (.region f35r3) f35b2)
def f35r5 : List AI := [⟨none, (.box 1 27 (.t 0))⟩, ⟨none, (.alloc 2 27 [(.list 0 (some true) []), (.list 0 (some true) []), (.int .i64 0), (.bool false)])⟩]
def f35b6 : AQ := (.seq (.region f35r5) f35b4)
def f35 : AQ := f35b6
theorem hf35 : cFunc Tryd.prog 35 = some ⟨7, f35.erase, [(RX.cell 2 4 true)]⟩ := by kernel_rfl
theorem okf35 : f35.ok = true := by kernel_rfl
def f37r1 : List AI := [⟨none, (.mov 2 (.v (.k (.c (.bool true)))))⟩]
def f37b2 : AQ := (.seq (.region f37r1) .ret)
def f37r3 : List AI := [⟨none, (.bin 83 .add (.t 62) (.v (.k (.c (.int .i64 1)))))⟩, ⟨none, (.mov 62 (.t 83))⟩]
def f37r4 : List AI := [⟨none, (.mov 2 (.v (.k (.c (.bool false)))))⟩]
def f37b5 : AQ := (.seq (.region f37r4) .ret)
def f37b6 : AQ := (.cond (.t 82) f37b5 .skip)
def f37r7 : List AI := [⟨none, (.faddr 66 0 (.t 6))⟩, ⟨none, (.load 67 1 false (.t 66))⟩, ⟨none, (.bin 68 .lss (.t 67) (.v (.k (.c (.int .i64 0)))))⟩, ⟨none, (.mov 69 (.t 68))⟩, ⟨(some (69, false)), (.faddr 70 0 (.t 6))⟩, ⟨(some (69, false)), (.load 71 1 false (.t 70))⟩, ⟨(some (69, false)), (.faddr 72 0 (.t 1))⟩, ⟨(some (69, false)), (.load 73 1 false (.t 72))⟩, ⟨(some (69, false)), (.len 74 (.t 73))⟩, ⟨(some (69, false)), (.bin 75 .geq (.t 71) (.t 74))⟩, ⟨none, (.pick 76 (.t 69) (.v (.k (.c (.bool true)))) (.t 75))⟩, ⟨none, (.mov 77 (.t 76))⟩, ⟨(some (77, false)), (.faddr 78 1 (.t 6))⟩, ⟨(some (77, false)), (.load 79 1 false (.t 78))⟩, ⟨(some (77, false)), (.lenS 80 (.t 79))⟩, ⟨(some (77, false)), (.bin 81 .neq (.t 80) (.v (.k (.c (.int .i64 16)))))⟩, ⟨none, (.pick 82 (.t 77) (.v (.k (.c (.bool true)))) (.t 81))⟩]
def f37b8 : AQ := (.seq (.region f37r7) f37b6)
def f37r9 : List AI := [⟨none, (.iaddr 64 2 (.t 60) (.t 62))⟩, ⟨none, (.load 65 2 true (.t 64))⟩, ⟨none, (.alloc 6 67 [(.int .i64 0), (.str [])])⟩, ⟨none, (.store 2 (.t 6) (.t 65))⟩]
def f37b10 : AQ := (.seq (.region f37r9) f37b8)
def f37b11 : AQ := (.block 3 f37b10)
def f37b12 : AQ := (.seq f37b11 (.region f37r3))
def f37b13 : AQ := (.cond (.t 63) .skip (.exit 2))
def f37b14 : AQ := (.seq f37b13 f37b12)
def f37r15 : List AI := [⟨none, (.bin 63 .lss (.t 62) (.t 61))⟩]
def f37b16 : AQ := (.seq (.region f37r15) f37b14)
def f37l17 : AQ := .loop [1, 60, 61, 62] [1] f37b16
theorem uf37l17 (P ts os Q) : awl P f37l17 Q ts os = awl P (.loop [1, 60, 61, 62] [1] f37b16) Q ts os := id rfl
def f37b18 : AQ := (.block 2 f37l17)
def f37r19 : List AI := [⟨none, (.faddr 59 1 (.t 1))⟩, ⟨none, (.load 60 1 false (.t 59))⟩, ⟨none, (.len 61 (.t 60))⟩, ⟨none, (.mov 62 (.v (.k (.c (.int .i64 0)))))⟩]
def f37b20 : AQ := (.seq (.region f37r19) f37b18)
def f37b21 : AQ := (.seq f37b20 f37b2)
def f37r22 : List AI := [⟨none, (.bin 58 .add (.t 51) (.v (.k (.c (.int .i64 1)))))⟩, ⟨none, (.mov 51 (.t 58))⟩]
def f37r23 : List AI := [⟨none, (.mov 2 (.v (.k (.c (.bool false)))))⟩]
def f37b24 : AQ := (.seq (.region f37r23) .ret)
def f37b25 : AQ := (.cond (.t 57) f37b24 .skip)
def f37r26 : List AI := [⟨none, (.mov 55 (.t 4))⟩, ⟨none, (.lenS 56 (.t 55))⟩, ⟨none, (.bin 57 .neq (.t 56) (.v (.k (.c (.int .i64 16)))))⟩]
def f37b27 : AQ := (.seq (.region f37r26) f37b25)
def f37r28 : List AI := [⟨none, (.iaddr 53 1 (.t 49) (.t 51))⟩, ⟨none, (.load 54 1 false (.t 53))⟩, ⟨none, (.mov 4 (.t 54))⟩]
def f37b29 : AQ := (.seq (.region f37r28) f37b27)
def f37b30 : AQ := (.block 1 f37b29)
def f37b31 : AQ := (.seq f37b30 (.region f37r22))
def f37b32 : AQ := (.cond (.t 52) .skip (.exit 0))
def f37b33 : AQ := (.seq f37b32 f37b31)
def f37r34 : List AI := [⟨none, (.bin 52 .lss (.t 51) (.t 50))⟩]
def f37b35 : AQ := (.seq (.region f37r34) f37b33)
def f37l36 : AQ := .loop [1, 49, 50, 51] [1] f37b35
theorem uf37l36 (P ts os Q) : awl P f37l36 Q ts os = awl P (.loop [1, 49, 50, 51] [1] f37b35) Q ts os := id rfl
def f37b37 : AQ := (.block 0 f37l36)
def f37r38 : List AI := [⟨none, (.faddr 48 0 (.t 1))⟩, ⟨none, (.load 49 1 false (.t 48))⟩, ⟨none, (.len 50 (.t 49))⟩, ⟨none, (.mov 51 (.v (.k (.c (.int .i64 0)))))⟩]
def f37b39 : AQ := (.seq (.region f37r38) f37b37)
def f37b40 : AQ := (.seq f37b39 f37b21)
def f37r41 : List AI := [⟨none, (.mov 2 (.v (.k (.c (.bool false)))))⟩]
def f37b42 : AQ := (.seq (.region f37r41) .ret)
def f37b43 : AQ := (.cond (.t 47) f37b42 .skip)
def f37r44 : List AI := [⟨none, (.faddr 7 0 (.t 1))⟩, ⟨none, (.load 8 1 false (.t 7))⟩, ⟨none, (.len 9 (.t 8))⟩, ⟨none, (.bin 10 .lss (.t 9) (.v (.k (.c (.int .i64 1)))))⟩, ⟨none, (.mov 11 (.t 10))⟩, ⟨(some (11, false)), (.faddr 12 0 (.t 1))⟩, ⟨(some (11, false)), (.load 13 1 false (.t 12))⟩, ⟨(some (11, false)), (.len 14 (.t 13))⟩, ⟨(some (11, false)), (.bin 15 .gtr (.t 14) (.v (.k (.c (.int .i64 512)))))⟩, ⟨none, (.pick 16 (.t 11) (.v (.k (.c (.bool true)))) (.t 15))⟩, ⟨none, (.mov 17 (.t 16))⟩, ⟨(some (17, false)), (.faddr 18 1 (.t 1))⟩, ⟨(some (17, false)), (.load 19 1 false (.t 18))⟩, ⟨(some (17, false)), (.len 20 (.t 19))⟩, ⟨(some (17, false)), (.bin 21 .gtr (.t 20) (.v (.k (.c (.int .i64 512)))))⟩, ⟨none, (.pick 22 (.t 17) (.v (.k (.c (.bool true)))) (.t 21))⟩, ⟨none, (.mov 23 (.t 22))⟩, ⟨(some (23, false)), (.faddr 24 2 (.t 1))⟩, ⟨(some (23, false)), (.load 25 1 false (.t 24))⟩, ⟨(some (23, false)), (.bin 26 .lss (.t 25) (.v (.k (.c (.int .i64 (-1))))))⟩, ⟨none, (.pick 27 (.t 23) (.v (.k (.c (.bool true)))) (.t 26))⟩, ⟨none, (.mov 28 (.t 27))⟩, ⟨(some (28, false)), (.faddr 29 2 (.t 1))⟩, ⟨(some (28, false)), (.load 30 1 false (.t 29))⟩, ⟨(some (28, false)), (.bin 31 .gtr (.t 30) (.v (.k (.c (.int .i64 512)))))⟩, ⟨none, (.pick 32 (.t 28) (.v (.k (.c (.bool true)))) (.t 31))⟩, ⟨none, (.mov 33 (.t 32))⟩, ⟨(some (33, false)), (.faddr 34 3 (.t 1))⟩, ⟨(some (33, false)), (.load 35 1 false (.t 34))⟩, ⟨(some (33, false)), (.mov 36 (.t 35))⟩, ⟨(some (36, true)), (.faddr 37 1 (.t 1))⟩, ⟨(some (36, true)), (.load 38 1 false (.t 37))⟩, ⟨(some (36, true)), (.len 39 (.t 38))⟩, ⟨(some (36, true)), (.bin 40 .gtr (.t 39) (.v (.k (.c (.int .i64 0)))))⟩, ⟨(some (36, true)), (.mov 41 (.t 40))⟩, ⟨(some (41, false)), (.faddr 42 2 (.t 1))⟩, ⟨(some (41, false)), (.load 43 1 false (.t 42))⟩, ⟨(some (41, false)), (.bin 44 .neq (.t 43) (.v (.k (.c (.int .i64 (-1))))))⟩, ⟨(some (36, true)), (.pick 45 (.t 41) (.v (.k (.c (.bool true)))) (.t 44))⟩, ⟨(some (33, false)), (.pick 46 (.t 36) (.t 45) (.v (.k (.c (.bool false)))))⟩, ⟨none, (.pick 47 (.t 33) (.v (.k (.c (.bool true)))) (.t 46))⟩]
def f37b45 : AQ := (.seq (.region f37r44) f37b43)
def f37b46 : AQ := (.seq f37b45 f37b40)
def f37r47 : List AI := [⟨none, (.box 1 27 (.t 0))⟩, ⟨none, (.mov 2 (.v (.k (.c (.bool false)))))⟩]
def f37b48 : AQ := (.seq (.region f37r47) f37b46)
def f37 : AQ := f37b48
theorem hf37 : cFunc Tryd.prog 37 = some ⟨84, f37.erase, [(RX.t 2)]⟩ := by kernel_rfl
theorem okf37 : f37.ok = true := by kernel_rfl
def f38r1 : List AI := [⟨none, (.mov 12 (.t 3))⟩, ⟨none, (.mov 2 (.t 12))⟩]
def f38b2 : AQ := (.seq (.region f38r1) .ret)
def f38r3 : List AI := [⟨none, (.mov 2 (.v (.k (.c (.int .i64 8)))))⟩]
def f38b4 : AQ := (.seq (.region f38r3) .ret)
def f38b5 : AQ := (.cond (.t 11) f38b4 .skip)
def f38r6 : List AI := [⟨none, (.mov 6 (.t 3))⟩, ⟨none, (.bin 7 .eql (.t 6) (.v (.k (.c (.int .i64 0)))))⟩, ⟨none, (.mov 8 (.t 7))⟩, ⟨(some (8, true)), (.faddr 9 3 (.t 1))⟩, ⟨(some (8, true)), (.load 10 1 false (.t 9))⟩, ⟨none, (.pick 11 (.t 8) (.t 10) (.v (.k (.c (.bool false)))))⟩]
def f38b7 : AQ := (.seq (.region f38r6) f38b5)
def f38b8 : AQ := (.seq f38b7 f38b2)
def f38r9 : List AI := [⟨none, (.load 4 4 true (.t 1))⟩, ⟨none, (.call (some 5) 39 [(.t 4)])⟩, ⟨none, (.mov 3 (.t 5))⟩]
def f38b10 : AQ := (.seq (.region f38r9) f38b8)
def f38r11 : List AI := [⟨none, (.box 1 27 (.t 0))⟩, ⟨none, (.mov 2 (.v (.k (.c (.int .i64 0)))))⟩]
def f38b12 : AQ := (.seq (.region f38r11) f38b10)
def f38 : AQ := f38b12
theorem hf38 : cFunc Tryd.prog 38 = some ⟨13, f38.erase, [(RX.t 2)]⟩ := by kernel_rfl
theorem okf38 : f38.ok = true := by kernel_rfl
def f39r1 : List AI := [⟨none, (.mov 2 (.v (.k (.c (.int .i64 0)))))⟩]
def f39b2 : AQ := (.seq (.region f39r1) .ret)
def f39r3 : List AI := [⟨none, (.mov 2 (.v (.k (.c (.int .i64 1)))))⟩]
def f39b4 : AQ := (.seq (.region f39r3) .ret)
def f39b5 : AQ := (.cond (.t 87) f39b4 .skip)
def f39r6 : List AI := [⟨none, (.faddr 75 3 (.t 1))⟩, ⟨none, (.load 76 1 false (.t 75))⟩, ⟨none, (.mov 77 (.t 76))⟩, ⟨(some (77, true)), (.faddr 78 1 (.t 1))⟩, ⟨(some (77, true)), (.load 79 1 false (.t 78))⟩, ⟨(some (77, true)), (.len 80 (.t 79))⟩, ⟨(some (77, true)), (.bin 81 .gtr (.t 80) (.v (.k (.c (.int .i64 0)))))⟩, ⟨(some (77, true)), (.mov 82 (.t 81))⟩, ⟨(some (82, false)), (.faddr 83 2 (.t 1))⟩, ⟨(some (82, false)), (.load 84 1 false (.t 83))⟩, ⟨(some (82, false)), (.bin 85 .neq (.t 84) (.v (.k (.c (.int .i64 (-1))))))⟩, ⟨(some (77, true)), (.pick 86 (.t 82) (.v (.k (.c (.bool true)))) (.t 85))⟩, ⟨none, (.pick 87 (.t 77) (.t 86) (.v (.k (.c (.bool false)))))⟩]
def f39b7 : AQ := (.seq (.region f39r6) f39b5)
def f39b8 : AQ := (.seq f39b7 f39b2)
def f39r9 : List AI := [⟨none, (.mov 51 (.t 4))⟩, ⟨none, (.bin 52 .add (.t 51) (.v (.k (.c (.int .i64 1)))))⟩, ⟨none, (.mov 4 (.t 52))⟩]
def f39r10 : List AI := [⟨none, (.mov 2 (.v (.k (.c (.int .i64 1)))))⟩]
def f39b11 : AQ := (.seq (.region f39r10) .ret)
def f39b12 : AQ := (.cond (.t 74) f39b11 .skip)
def f39r13 : List AI := [⟨none, (.faddr 58 0 (.t 5))⟩, ⟨none, (.load 59 1 false (.t 58))⟩, ⟨none, (.bin 60 .lss (.t 59) (.v (.k (.c (.int .i64 0)))))⟩, ⟨none, (.mov 61 (.t 60))⟩, ⟨(some (61, false)), (.faddr 62 0 (.t 5))⟩, ⟨(some (61, false)), (.load 63 1 false (.t 62))⟩, ⟨(some (61, false)), (.faddr 64 0 (.t 1))⟩, ⟨(some (61, false)), (.load 65 1 false (.t 64))⟩, ⟨(some (61, false)), (.len 66 (.t 65))⟩, ⟨(some (61, false)), (.bin 67 .geq (.t 63) (.t 66))⟩, ⟨none, (.pick 68 (.t 61) (.v (.k (.c (.bool true)))) (.t 67))⟩, ⟨none, (.mov 69 (.t 68))⟩, ⟨(some (69, false)), (.faddr 70 1 (.t 5))⟩, ⟨(some (69, false)), (.load 71 1 false (.t 70))⟩, ⟨(some (69, false)), (.lenS 72 (.t 71))⟩, ⟨(some (69, false)), (.bin 73 .neq (.t 72) (.v (.k (.c (.int .i64 16)))))⟩, ⟨none, (.pick 74 (.t 69) (.v (.k (.c (.bool true)))) (.t 73))⟩]
def f39b14 : AQ := (.seq (.region f39r13) f39b12)
def f39r15 : List AI := [⟨none, (.faddr 53 1 (.t 1))⟩, ⟨none, (.load 54 1 false (.t 53))⟩, ⟨none, (.mov 55 (.t 4))⟩, ⟨none, (.iaddr 56 2 (.t 54) (.t 55))⟩, ⟨none, (.load 57 2 true (.t 56))⟩, ⟨none, (.alloc 5 67 [(.int .i64 0), (.str [])])⟩, ⟨none, (.store 2 (.t 5) (.t 57))⟩]
def f39b16 : AQ := (.seq (.region f39r15) f39b14)
def f39b17 : AQ := (.block 3 f39b16)
def f39b18 : AQ := (.seq f39b17 (.region f39r9))
def f39b19 : AQ := (.cond (.t 50) .skip (.exit 2))
def f39r20 : List AI := [⟨none, (.mov 46 (.t 4))⟩, ⟨none, (.faddr 47 1 (.t 1))⟩, ⟨none, (.load 48 1 false (.t 47))⟩, ⟨none, (.len 49 (.t 48))⟩, ⟨none, (.bin 50 .lss (.t 46) (.t 49))⟩]
def f39b21 : AQ := (.seq (.region f39r20) f39b19)
def f39b22 : AQ := (.seq f39b21 f39b18)
def f39l23 : AQ := .loop [1, 4] [1] f39b22
theorem uf39l23 (P ts os Q) : awl P f39l23 Q ts os = awl P (.loop [1, 4] [1] f39b22) Q ts os := id rfl
def f39b24 : AQ := (.block 2 f39l23)
def f39r25 : List AI := [⟨none, (.mov 4 (.v (.k (.c (.int .i64 0)))))⟩]
def f39b26 : AQ := (.seq (.region f39r25) f39b24)
def f39b27 : AQ := (.seq f39b26 f39b8)
def f39r28 : List AI := [⟨none, (.mov 37 (.t 3))⟩, ⟨none, (.bin 38 .add (.t 37) (.v (.k (.c (.int .i64 1)))))⟩, ⟨none, (.mov 3 (.t 38))⟩]
def f39r29 : List AI := [⟨none, (.mov 2 (.v (.k (.c (.int .i64 1)))))⟩]
def f39b30 : AQ := (.seq (.region f39r29) .ret)
def f39b31 : AQ := (.cond (.t 45) f39b30 .skip)
def f39r32 : List AI := [⟨none, (.faddr 39 0 (.t 1))⟩, ⟨none, (.load 40 1 false (.t 39))⟩, ⟨none, (.mov 41 (.t 3))⟩, ⟨none, (.iaddr 42 1 (.t 40) (.t 41))⟩, ⟨none, (.load 43 1 false (.t 42))⟩, ⟨none, (.lenS 44 (.t 43))⟩, ⟨none, (.bin 45 .neq (.t 44) (.v (.k (.c (.int .i64 16)))))⟩]
def f39b33 : AQ := (.seq (.region f39r32) f39b31)
def f39b34 : AQ := (.block 1 f39b33)
def f39b35 : AQ := (.seq f39b34 (.region f39r28))
def f39b36 : AQ := (.cond (.t 36) .skip (.exit 0))
def f39r37 : List AI := [⟨none, (.mov 32 (.t 3))⟩, ⟨none, (.faddr 33 0 (.t 1))⟩, ⟨none, (.load 34 1 false (.t 33))⟩, ⟨none, (.len 35 (.t 34))⟩, ⟨none, (.bin 36 .lss (.t 32) (.t 35))⟩]
def f39b38 : AQ := (.seq (.region f39r37) f39b36)
def f39b39 : AQ := (.seq f39b38 f39b35)
def f39l40 : AQ := .loop [1, 3] [1] f39b39
theorem uf39l40 (P ts os Q) : awl P f39l40 Q ts os = awl P (.loop [1, 3] [1] f39b39) Q ts os := id rfl
def f39b41 : AQ := (.block 0 f39l40)
def f39r42 : List AI := [⟨none, (.mov 3 (.v (.k (.c (.int .i64 0)))))⟩]
def f39b43 : AQ := (.seq (.region f39r42) f39b41)
def f39b44 : AQ := (.seq f39b43 f39b27)
def f39r45 : List AI := [⟨none, (.mov 2 (.v (.k (.c (.int .i64 1)))))⟩]
def f39b46 : AQ := (.seq (.region f39r45) .ret)
def f39b47 : AQ := (.cond (.t 31) f39b46 .skip)
def f39r48 : List AI := [⟨none, (.faddr 6 0 (.t 1))⟩, ⟨none, (.load 7 1 false (.t 6))⟩, ⟨none, (.len 8 (.t 7))⟩, ⟨none, (.bin 9 .lss (.t 8) (.v (.k (.c (.int .i64 1)))))⟩, ⟨none, (.mov 10 (.t 9))⟩, ⟨(some (10, false)), (.faddr 11 0 (.t 1))⟩, ⟨(some (10, false)), (.load 12 1 false (.t 11))⟩, ⟨(some (10, false)), (.len 13 (.t 12))⟩, ⟨(some (10, false)), (.bin 14 .gtr (.t 13) (.v (.k (.c (.int .i64 512)))))⟩, ⟨none, (.pick 15 (.t 10) (.v (.k (.c (.bool true)))) (.t 14))⟩, ⟨none, (.mov 16 (.t 15))⟩, ⟨(some (16, false)), (.faddr 17 1 (.t 1))⟩, ⟨(some (16, false)), (.load 18 1 false (.t 17))⟩, ⟨(some (16, false)), (.len 19 (.t 18))⟩, ⟨(some (16, false)), (.bin 20 .gtr (.t 19) (.v (.k (.c (.int .i64 512)))))⟩, ⟨none, (.pick 21 (.t 16) (.v (.k (.c (.bool true)))) (.t 20))⟩, ⟨none, (.mov 22 (.t 21))⟩, ⟨(some (22, false)), (.faddr 23 2 (.t 1))⟩, ⟨(some (22, false)), (.load 24 1 false (.t 23))⟩, ⟨(some (22, false)), (.bin 25 .lss (.t 24) (.v (.k (.c (.int .i64 (-1))))))⟩, ⟨none, (.pick 26 (.t 22) (.v (.k (.c (.bool true)))) (.t 25))⟩, ⟨none, (.mov 27 (.t 26))⟩, ⟨(some (27, false)), (.faddr 28 2 (.t 1))⟩, ⟨(some (27, false)), (.load 29 1 false (.t 28))⟩, ⟨(some (27, false)), (.bin 30 .gtr (.t 29) (.v (.k (.c (.int .i64 512)))))⟩, ⟨none, (.pick 31 (.t 27) (.v (.k (.c (.bool true)))) (.t 30))⟩]
def f39b49 : AQ := (.seq (.region f39r48) f39b47)
def f39b50 : AQ := (.seq f39b49 f39b44)
def f39r51 : List AI := [⟨none, (.box 1 27 (.t 0))⟩, ⟨none, (.mov 2 (.v (.k (.c (.int .i64 0)))))⟩]
def f39b52 : AQ := (.seq (.region f39r51) f39b50)
def f39 : AQ := f39b52
theorem hf39 : cFunc Tryd.prog 39 = some ⟨88, f39.erase, [(RX.t 2)]⟩ := by kernel_rfl
theorem okf39 : f39.ok = true := by kernel_rfl
def f40r1 : List AI := [⟨none, (.mov 33 (.t 4))⟩, ⟨none, (.mov 2 (.t 33))⟩, ⟨none, (.mov 3 (.v (.k (.c (.bool true)))))⟩]
def f40b2 : AQ := (.seq (.region f40r1) .ret)
def f40r3 : List AI := [⟨none, (.bin 32 .add (.t 11) (.v (.k (.c (.int .i64 1)))))⟩, ⟨none, (.mov 11 (.t 32))⟩]
def f40r4 : List AI := [⟨none, (.mov 24 (.t 4))⟩, ⟨none, (.bin 25 .mul (.v (.k (.c (.int .i64 10)))) (.t 24))⟩, ⟨none, (.mov 26 (.t 0))⟩, ⟨none, (.mov 27 (.t 5))⟩, ⟨none, (.sidx 28 (.t 26) (.t 27))⟩, ⟨none, (.bin 29 .sub (.t 28) (.v (.k (.c (.int .u8 48)))))⟩, ⟨none, (.conv 30 .i64 (.t 29))⟩, ⟨none, (.bin 31 .add (.t 25) (.t 30))⟩, ⟨none, (.mov 4 (.t 31))⟩]
def f40r5 : List AI := [⟨none, (.mov 2 (.v (.k (.c (.int .i64 0)))))⟩, ⟨none, (.mov 3 (.v (.k (.c (.bool false)))))⟩]
def f40b6 : AQ := (.seq (.region f40r5) .ret)
def f40b7 : AQ := (.cond (.t 23) f40b6 .skip)
def f40r8 : List AI := [⟨none, (.mov 14 (.t 0))⟩, ⟨none, (.mov 15 (.t 5))⟩, ⟨none, (.sidx 16 (.t 14) (.t 15))⟩, ⟨none, (.bin 17 .lss (.t 16) (.v (.k (.c (.int .u8 48)))))⟩, ⟨none, (.mov 18 (.t 17))⟩, ⟨(some (18, false)), (.mov 19 (.t 0))⟩, ⟨(some (18, false)), (.mov 20 (.t 5))⟩, ⟨(some (18, false)), (.sidx 21 (.t 19) (.t 20))⟩, ⟨(some (18, false)), (.bin 22 .gtr (.t 21) (.v (.k (.c (.int .u8 57)))))⟩, ⟨none, (.pick 23 (.t 18) (.v (.k (.c (.bool true)))) (.t 22))⟩]
def f40b9 : AQ := (.seq (.region f40r8) f40b7)
def f40b10 : AQ := (.seq f40b9 (.region f40r4))
def f40r11 : List AI := [⟨none, (.mov 13 (.t 11))⟩, ⟨none, (.mov 5 (.t 13))⟩]
def f40b12 : AQ := (.seq (.region f40r11) f40b10)
def f40b13 : AQ := (.block 1 f40b12)
def f40b14 : AQ := (.seq f40b13 (.region f40r3))
def f40b15 : AQ := (.cond (.t 12) .skip (.exit 0))
def f40b16 : AQ := (.seq f40b15 f40b14)
def f40r17 : List AI := [⟨none, (.bin 12 .lss (.t 11) (.v (.k (.c (.int .i64 8)))))⟩]
def f40b18 : AQ := (.seq (.region f40r17) f40b16)
def f40l19 : AQ := .loop [0, 4, 11] [] f40b18
theorem uf40l19 (P ts os Q) : awl P f40l19 Q ts os = awl P (.loop [0, 4, 11] [] f40b18) Q ts os := id rfl
def f40b20 : AQ := (.block 0 f40l19)
def f40r21 : List AI := [⟨none, (.mov 11 (.v (.k (.c (.int .i64 0)))))⟩]
def f40b22 : AQ := (.seq (.region f40r21) f40b20)
def f40b23 : AQ := (.seq f40b22 f40b2)
def f40r24 : List AI := [⟨none, (.mov 4 (.v (.k (.c (.int .i64 0)))))⟩]
def f40b25 : AQ := (.seq (.region f40r24) f40b23)
def f40r26 : List AI := [⟨none, (.mov 2 (.v (.k (.c (.int .i64 0)))))⟩, ⟨none, (.mov 3 (.v (.k (.c (.bool false)))))⟩]
def f40b27 : AQ := (.seq (.region f40r26) .ret)
def f40b28 : AQ := (.cond (.t 10) f40b27 .skip)
def f40r29 : List AI := [⟨none, (.mov 6 (.t 0))⟩, ⟨none, (.slstr 7 (.t 6) none (some (.v (.k (.c (.int .i64 8))))))⟩, ⟨none, (.mov 8 (.t 0))⟩, ⟨none, (.slstr 9 (.t 8) (some (.v (.k (.c (.int .i64 8))))) none)⟩, ⟨none, (.bin 10 .neq (.t 7) (.t 9))⟩]
def f40b30 : AQ := (.seq (.draw f40r29 [[], [0], [], [2], [1, 3]]) f40b28)
def f40b31 : AQ := (.seq f40b30 f40b25)
def f40r32 : List AI := [⟨none, (.mov 2 (.v (.k (.c (.int .i64 0)))))⟩, ⟨none, (.mov 3 (.v (.k (.c (.bool false)))))⟩]
def f40b33 : AQ := (.seq (.region f40r32) f40b31)
def f40 : AQ := f40b33
theorem hf40 : cFunc Tryd.prog 40 = some ⟨34, f40.erase, [(RX.t 2), (RX.t 3)]⟩ := by kernel_rfl
theorem okf40 : f40.ok = true := by kernel_rfl
def f42r1 : List AI := [⟨none, (.mov 24 (.t 3))⟩, ⟨none, (.mov 25 (.t 5))⟩, ⟨none, (.slstr 26 (.t 24) none (some (.t 25)))⟩, ⟨none, (.mov 27 (.t 3))⟩, ⟨none, (.mov 28 (.t 5))⟩, ⟨none, (.slstr 29 (.t 27) (some (.t 28)) none)⟩, ⟨none, (.mov 2 (.t 26))⟩, ⟨none, (.mov 3 (.t 29))⟩, ⟨none, (.mov 4 (.v (.k (.c (.bool true)))))⟩]
def f42b2 : AQ := (.seq (.draw f42r1 [[], [], [0, 1], [], [], [3, 4], [2, 0, 1, 2], [5, 6, 0, 1, 2, 3, 4, 5, 6], [7, 0, 1, 2, 3, 4, 5, 6, 7]]) .ret)
def f42r3 : List AI := [⟨none, (.mov 2 (.v (.k (.c (.str [])))))⟩, ⟨none, (.mov 3 (.v (.k (.c (.str [])))))⟩, ⟨none, (.mov 4 (.v (.k (.c (.bool false)))))⟩]
def f42b4 : AQ := (.seq (.region f42r3) .ret)
def f42b5 : AQ := (.cond (.t 23) f42b4 .skip)
def f42r6 : List AI := [⟨none, (.mov 12 (.t 4))⟩, ⟨none, (.un 13 .not (.t 12))⟩, ⟨none, (.mov 14 (.t 13))⟩, ⟨(some (14, false)), (.mov 15 (.t 5))⟩, ⟨(some (14, false)), (.bin 16 .lss (.t 15) (.v (.k (.c (.int .i64 0)))))⟩, ⟨none, (.pick 17 (.t 14) (.v (.k (.c (.bool true)))) (.t 16))⟩, ⟨none, (.mov 18 (.t 17))⟩, ⟨(some (18, false)), (.mov 19 (.t 5))⟩, ⟨(some (18, false)), (.mov 20 (.t 3))⟩, ⟨(some (18, false)), (.lenS 21 (.t 20))⟩, ⟨(some (18, false)), (.bin 22 .gtr (.t 19) (.t 21))⟩, ⟨none, (.pick 23 (.t 18) (.v (.k (.c (.bool true)))) (.t 22))⟩]
def f42b7 : AQ := (.seq (.region f42r6) f42b5)
def f42b8 : AQ := (.seq f42b7 f42b2)
def f42r9 : List AI := [⟨none, (.mov 7 (.t 0))⟩, ⟨none, (.call (some 8) 50 [(.t 7)])⟩, ⟨none, (.mov 6 (.t 8))⟩, ⟨none, (.extr 9 (.t 6) 0)⟩, ⟨none, (.extr 10 (.t 6) 1)⟩, ⟨none, (.extr 11 (.t 6) 2)⟩, ⟨none, (.mov 5 (.t 9))⟩, ⟨none, (.mov 3 (.t 10))⟩, ⟨none, (.mov 4 (.t 11))⟩]
def f42b10 : AQ := (.seq (.region f42r9) f42b8)
def f42r11 : List AI := [⟨none, (.mov 2 (.v (.k (.c (.str [])))))⟩, ⟨none, (.mov 3 (.v (.k (.c (.str [])))))⟩, ⟨none, (.mov 4 (.v (.k (.c (.bool false)))))⟩]
def f42b12 : AQ := (.seq (.region f42r11) f42b10)
def f42 : AQ := f42b12
theorem hf42 : cFunc Tryd.prog 42 = some ⟨30, f42.erase, [(RX.t 2), (RX.t 3), (RX.t 4)]⟩ := by kernel_rfl
theorem okf42 : f42.ok = true := by kernel_rfl
def f45r1 : List AI := [⟨none, (.mov 2 (.v (.k (.c (.int .i64 0)))))⟩]
def f45b2 : AQ := (.seq (.region f45r1) .ret)
def f45r3 : List AI := [⟨none, (.mov 2 (.v (.k (.c (.int .i64 1)))))⟩]
def f45b4 : AQ := (.seq (.region f45r3) .ret)
def f45b5 : AQ := (.cond (.t 5) f45b4 .skip)
def f45r6 : List AI := [⟨none, (.load 3 4 true (.t 1))⟩, ⟨none, (.call (some 4) 37 [(.t 3)])⟩, ⟨none, (.un 5 .not (.t 4))⟩]
def f45b7 : AQ := (.seq (.region f45r6) f45b5)
def f45b8 : AQ := (.seq f45b7 f45b2)
def f45r9 : List AI := [⟨none, (.box 1 27 (.t 0))⟩, ⟨none, (.mov 2 (.v (.k (.c (.int .i64 0)))))⟩]
def f45b10 : AQ := (.seq (.region f45r9) f45b8)
def f45 : AQ := f45b10
theorem hf45 : cFunc Tryd.prog 45 = some ⟨6, f45.erase, [(RX.t 2)]⟩ := by kernel_rfl
theorem okf45 : f45.ok = true := by kernel_rfl
def f51r1 : List AI := [⟨none, (.mov 28 (.t 8))⟩, ⟨none, (.mov 29 (.t 9))⟩, ⟨none, (.mov 4 (.t 28))⟩, ⟨none, (.mov 5 (.t 29))⟩]
def f51b2 : AQ := (.seq (.region f51r1) .ret)
def f51r3 : List AI := [⟨none, (.mov 23 (.t 0))⟩, ⟨none, (.mov 24 (.t 1))⟩, ⟨none, (.call (some 25) 60 [(.t 23), (.t 24)])⟩, ⟨none, (.mov 22 (.t 25))⟩, ⟨none, (.extr 26 (.t 22) 0)⟩, ⟨none, (.extr 27 (.t 22) 1)⟩, ⟨none, (.mov 8 (.t 26))⟩, ⟨none, (.mov 9 (.t 27))⟩]
def f51b4 : AQ := (.seq (.region f51r3) f51b2)
def f51r5 : List AI := [⟨none, (.mov 18 (.t 6))⟩, ⟨none, (.conv 19 .u64 (.t 18))⟩, ⟨none, (.mov 20 (.t 7))⟩, ⟨none, (.conv 21 .u64 (.t 20))⟩, ⟨none, (.mov 4 (.t 19))⟩, ⟨none, (.mov 5 (.t 21))⟩]
def f51b6 : AQ := (.seq (.region f51r5) .ret)
def f51r7 : List AI := [⟨none, (.mov 11 (.t 0))⟩, ⟨none, (.conv 12 .u32 (.t 11))⟩, ⟨none, (.mov 13 (.t 1))⟩, ⟨none, (.conv 14 .u32 (.t 13))⟩, ⟨none, (.call (some 15) 59 [(.t 12), (.t 14)])⟩, ⟨none, (.mov 10 (.t 15))⟩, ⟨none, (.extr 16 (.t 10) 0)⟩, ⟨none, (.extr 17 (.t 10) 1)⟩, ⟨none, (.mov 6 (.t 16))⟩, ⟨none, (.mov 7 (.t 17))⟩]
def f51b8 : AQ := (.seq (.region f51r7) f51b6)
def f51b9 : AQ := (.cond (.v (.k (.c (.bool false)))) f51b8 .skip)
def f51b10 : AQ := (.seq f51b9 f51b4)
def f51r11 : List AI := [⟨none, (.mov 4 (.v (.k (.c (.int .u64 0)))))⟩, ⟨none, (.mov 5 (.v (.k (.c (.int .u64 0)))))⟩]
def f51b12 : AQ := (.seq (.region f51r11) f51b10)
def f51 : AQ := f51b12
theorem hf51 : cFunc Tryd.prog 51 = some ⟨30, f51.erase, [(RX.t 4), (RX.t 5)]⟩ := by kernel_rfl
theorem okf51 : f51.ok = true := by kernel_rfl
def f52r1 : List AI := [⟨none, (.mov 5 (.t 0))⟩, ⟨none, (.mov 6 (.t 1))⟩, ⟨none, (.call (some 7) 61 [(.t 5), (.t 6)])⟩, ⟨none, (.mov 4 (.t 7))⟩]
def f52b2 : AQ := (.seq (.region f52r1) .ret)
def f52r3 : List AI := [⟨none, (.mov 4 (.v (.k (.c (.bool false)))))⟩]
def f52b4 : AQ := (.seq (.region f52r3) f52b2)
def f52 : AQ := f52b4
theorem hf52 : cFunc Tryd.prog 52 = some ⟨8, f52.erase, [(RX.t 4)]⟩ := by kernel_rfl
theorem okf52 : f52.ok = true := by kernel_rfl
def f60r1 : List AI := [⟨none, (.mov 48 (.t 0))⟩, ⟨none, (.mov 49 (.t 1))⟩, ⟨none, (.bin 50 .mul (.t 48) (.t 49))⟩, ⟨none, (.mov 5 (.t 50))⟩]
def f60b2 : AQ := (.seq (.region f60r1) .ret)
def f60r3 : List AI := [⟨none, (.mov 40 (.t 7))⟩, ⟨none, (.mov 41 (.t 9))⟩, ⟨none, (.bin 42 .mul (.t 40) (.t 41))⟩, ⟨none, (.mov 43 (.t 13))⟩, ⟨none, (.bin 44 .add (.t 42) (.t 43))⟩, ⟨none, (.mov 45 (.t 12))⟩, ⟨none, (.bin 46 .shr (.t 45) (.v (.k (.c (.int .u64 32)))))⟩, ⟨none, (.bin 47 .add (.t 44) (.t 46))⟩, ⟨none, (.mov 4 (.t 47))⟩]
def f60b4 : AQ := (.seq (.region f60r3) f60b2)
def f60r5 : List AI := [⟨none, (.mov 35 (.t 12))⟩, ⟨none, (.mov 36 (.t 6))⟩, ⟨none, (.mov 37 (.t 9))⟩, ⟨none, (.bin 38 .mul (.t 36) (.t 37))⟩, ⟨none, (.bin 39 .add (.t 35) (.t 38))⟩, ⟨none, (.mov 12 (.t 39))⟩]
def f60b6 : AQ := (.seq (.region f60r5) f60b4)
def f60r7 : List AI := [⟨none, (.mov 33 (.t 11))⟩, ⟨none, (.bin 34 .shr (.t 33) (.v (.k (.c (.int .u64 32)))))⟩, ⟨none, (.mov 13 (.t 34))⟩]
def f60b8 : AQ := (.seq (.region f60r7) f60b6)
def f60r9 : List AI := [⟨none, (.mov 31 (.t 11))⟩, ⟨none, (.bin 32 .and (.t 31) (.v (.k (.c (.int .u64 4294967295)))))⟩, ⟨none, (.mov 12 (.t 32))⟩]
def f60b10 : AQ := (.seq (.region f60r9) f60b8)
def f60r11 : List AI := [⟨none, (.mov 25 (.t 7))⟩, ⟨none, (.mov 26 (.t 8))⟩, ⟨none, (.bin 27 .mul (.t 25) (.t 26))⟩, ⟨none, (.mov 28 (.t 10))⟩, ⟨none, (.bin 29 .shr (.t 28) (.v (.k (.c (.int .u64 32)))))⟩, ⟨none, (.bin 30 .add (.t 27) (.t 29))⟩, ⟨none, (.mov 11 (.t 30))⟩]
def f60b12 : AQ := (.seq (.region f60r11) f60b10)
def f60r13 : List AI := [⟨none, (.mov 22 (.t 6))⟩, ⟨none, (.mov 23 (.t 8))⟩, ⟨none, (.bin 24 .mul (.t 22) (.t 23))⟩, ⟨none, (.mov 10 (.t 24))⟩]
def f60b14 : AQ := (.seq (.region f60r13) f60b12)
def f60r15 : List AI := [⟨none, (.mov 20 (.t 1))⟩, ⟨none, (.bin 21 .shr (.t 20) (.v (.k (.c (.int .u64 32)))))⟩, ⟨none, (.mov 9 (.t 21))⟩]
def f60b16 : AQ := (.seq (.region f60r15) f60b14)
def f60r17 : List AI := [⟨none, (.mov 18 (.t 1))⟩, ⟨none, (.bin 19 .and (.t 18) (.v (.k (.c (.int .u64 4294967295)))))⟩, ⟨none, (.mov 8 (.t 19))⟩]
def f60b18 : AQ := (.seq (.region f60r17) f60b16)
def f60r19 : List AI := [⟨none, (.mov 16 (.t 0))⟩, ⟨none, (.bin 17 .shr (.t 16) (.v (.k (.c (.int .u64 32)))))⟩, ⟨none, (.mov 7 (.t 17))⟩]
def f60b20 : AQ := (.seq (.region f60r19) f60b18)
def f60r21 : List AI := [⟨none, (.mov 14 (.t 0))⟩, ⟨none, (.bin 15 .and (.t 14) (.v (.k (.c (.int .u64 4294967295)))))⟩, ⟨none, (.mov 6 (.t 15))⟩]
def f60b22 : AQ := (.seq (.region f60r21) f60b20)
def f60r23 : List AI := [⟨none, (.mov 4 (.v (.k (.c (.int .u64 0)))))⟩, ⟨none, (.mov 5 (.v (.k (.c (.int .u64 0)))))⟩]
def f60b24 : AQ := (.seq (.region f60r23) f60b22)
def f60 : AQ := f60b24
theorem hf60 : cFunc Tryd.prog 60 = some ⟨51, f60.erase, [(RX.t 4), (RX.t 5)]⟩ := by kernel_rfl
theorem okf60 : f60.ok = true := by kernel_rfl
def f61r1 : List AI := [⟨none, (.mov 5 (.t 0))⟩, ⟨none, (.lenS 6 (.t 5))⟩, ⟨none, (.mov 7 (.t 1))⟩, ⟨none, (.lenS 8 (.t 7))⟩, ⟨none, (.bin 9 .geq (.t 6) (.t 8))⟩, ⟨none, (.mov 10 (.t 9))⟩, ⟨(some (10, true)), (.mov 11 (.t 0))⟩, ⟨(some (10, true)), (.mov 12 (.t 1))⟩, ⟨(some (10, true)), (.lenS 13 (.t 12))⟩, ⟨(some (10, true)), (.slstr 14 (.t 11) none (some (.t 13)))⟩, ⟨(some (10, true)), (.mov 15 (.t 1))⟩, ⟨(some (10, true)), (.bin 16 .eql (.t 14) (.t 15))⟩, ⟨none, (.pick 17 (.t 10) (.t 16) (.v (.k (.c (.bool false)))))⟩, ⟨none, (.mov 4 (.t 17))⟩]
def f61b2 : AQ := (.seq (.region f61r1) .ret)
def f61r3 : List AI := [⟨none, (.mov 4 (.v (.k (.c (.bool false)))))⟩]
def f61b4 : AQ := (.seq (.region f61r3) f61b2)
def f61 : AQ := f61b4
theorem hf61 : cFunc Tryd.prog 61 = some ⟨18, f61.erase, [(RX.t 4)]⟩ := by kernel_rfl
theorem okf61 : f61.ok = true := by kernel_rfl
def f4r1 : List AI := [⟨none, (.mov 87 (.t 3))⟩, ⟨none, (.mov 88 (.t 87))⟩, ⟨(some (88, true)), (.mov 89 (.t 9))⟩, ⟨(some (88, true)), (.call (some 90) 15 [(.t 89)])⟩, ⟨(some (88, true)), (.bin 91 .geq (.t 90) (.v (.k (.c (.int .i64 0)))))⟩, ⟨none, (.pick 92 (.t 88) (.t 91) (.v (.k (.c (.bool false)))))⟩, ⟨none, (.mov 93 (.t 92))⟩, ⟨(some (93, true)), (.mov 94 (.t 9))⟩, ⟨(some (93, true)), (.call (some 95) 15 [(.t 94)])⟩, ⟨(some (93, true)), (.mov 96 (.t 6))⟩, ⟨(some (93, true)), (.lenS 97 (.t 96))⟩, ⟨(some (93, true)), (.bin 98 .leq (.t 95) (.t 97))⟩, ⟨none, (.pick 99 (.t 93) (.t 98) (.v (.k (.c (.bool false)))))⟩, ⟨none, (.mov 100 (.t 99))⟩, ⟨(some (100, true)), (.mov 101 (.t 10))⟩, ⟨(some (100, true)), (.call (some 102) 15 [(.t 101)])⟩, ⟨(some (100, true)), (.bin 103 .geq (.t 102) (.v (.k (.c (.int .i64 0)))))⟩, ⟨none, (.pick 104 (.t 100) (.t 103) (.v (.k (.c (.bool false)))))⟩, ⟨none, (.mov 105 (.t 104))⟩, ⟨(some (105, true)), (.mov 106 (.t 10))⟩, ⟨(some (105, true)), (.call (some 107) 15 [(.t 106)])⟩, ⟨(some (105, true)), (.mov 108 (.t 6))⟩, ⟨(some (105, true)), (.lenS 109 (.t 108))⟩, ⟨(some (105, true)), (.bin 110 .leq (.t 107) (.t 109))⟩, ⟨none, (.pick 111 (.t 105) (.t 110) (.v (.k (.c (.bool false)))))⟩, ⟨none, (.mov 2 (.t 111))⟩]
def f4b2 : AQ := (.seq (.region f4r1) .ret)
def f4r3 : List AI := [⟨none, (.mov 2 (.v (.k (.c (.bool false)))))⟩]
def f4b4 : AQ := (.seq (.region f4r3) .ret)
def f4b5 : AQ := (.cond (.t 86) f4b4 .skip)
def f4r6 : List AI := [⟨none, (.mov 79 (.t 9))⟩, ⟨none, (.mov 80 (.t 11))⟩, ⟨none, (.bin 81 .neq (.t 79) (.t 80))⟩, ⟨none, (.mov 82 (.t 81))⟩, ⟨(some (82, true)), (.mov 83 (.t 10))⟩, ⟨(some (82, true)), (.mov 84 (.t 11))⟩, ⟨(some (82, true)), (.bin 85 .neq (.t 83) (.t 84))⟩, ⟨none, (.pick 86 (.t 82) (.t 85) (.v (.k (.c (.bool false)))))⟩]
def f4b7 : AQ := (.seq (.region f4r6) f4b5)
def f4b8 : AQ := (.seq f4b7 f4b2)
def f4r9 : List AI := [⟨none, (.mov 76 (.t 6))⟩, ⟨none, (.lenS 77 (.t 76))⟩, ⟨none, (.call (some 78) 14 [(.t 77)])⟩, ⟨none, (.mov 11 (.t 78))⟩]
def f4b10 : AQ := (.seq (.region f4r9) f4b8)
def f4r11 : List AI := [⟨none, (.faddr 72 0 (.t 4))⟩, ⟨none, (.load 73 1 false (.t 72))⟩, ⟨none, (.iaddr 74 1 (.t 73) (.v (.k (.c (.int .i64 1)))))⟩, ⟨none, (.load 75 1 false (.t 74))⟩, ⟨none, (.mov 10 (.t 75))⟩]
def f4b12 : AQ := (.seq (.region f4r11) f4b10)
def f4r13 : List AI := [⟨none, (.faddr 68 0 (.t 4))⟩, ⟨none, (.load 69 1 false (.t 68))⟩, ⟨none, (.iaddr 70 1 (.t 69) (.v (.k (.c (.int .i64 0)))))⟩, ⟨none, (.load 71 1 false (.t 70))⟩, ⟨none, (.mov 9 (.t 71))⟩]
def f4b14 : AQ := (.seq (.region f4r13) f4b12)
def f4r15 : List AI := [⟨none, (.mov 2 (.v (.k (.c (.bool false)))))⟩]
def f4b16 : AQ := (.seq (.region f4r15) .ret)
def f4b17 : AQ := (.cond (.t 67) f4b16 .skip)
def f4r18 : List AI := [⟨none, (.mov 55 (.t 8))⟩, ⟨none, (.lenS 56 (.t 55))⟩, ⟨none, (.mov 57 (.t 6))⟩, ⟨none, (.lenS 58 (.t 57))⟩, ⟨none, (.bin 59 .lss (.t 56) (.t 58))⟩, ⟨none, (.mov 60 (.t 59))⟩, ⟨(some (60, false)), (.mov 61 (.t 8))⟩, ⟨(some (60, false)), (.mov 62 (.t 6))⟩, ⟨(some (60, false)), (.lenS 63 (.t 62))⟩, ⟨(some (60, false)), (.slstr 64 (.t 61) none (some (.t 63)))⟩, ⟨(some (60, false)), (.mov 65 (.t 6))⟩, ⟨(some (60, false)), (.bin 66 .neq (.t 64) (.t 65))⟩, ⟨none, (.pick 67 (.t 60) (.v (.k (.c (.bool true)))) (.t 66))⟩]
def f4b19 : AQ := (.seq (.region f4r18) f4b17)
def f4b20 : AQ := (.seq f4b19 f4b14)
def f4r21 : List AI := [⟨none, (.load 53 4 true (.t 4))⟩, ⟨none, (.call (some 54) 13 [(.t 53)])⟩, ⟨none, (.mov 8 (.t 54))⟩]
def f4b22 : AQ := (.seq (.region f4r21) f4b20)
def f4r23 : List AI := [⟨none, (.mov 44 (.t 7))⟩, ⟨none, (.bin 45 .add (.t 44) (.v (.k (.c (.int .i64 1)))))⟩, ⟨none, (.mov 7 (.t 45))⟩]
def f4r24 : List AI := [⟨none, (.mov 46 (.t 6))⟩, ⟨none, (.mov 47 (.t 0))⟩, ⟨none, (.mov 48 (.t 7))⟩, ⟨none, (.iaddr 49 1 (.t 47) (.t 48))⟩, ⟨none, (.load 50 1 false (.t 49))⟩, ⟨none, (.call (some 51) 12 [(.t 50)])⟩, ⟨none, (.bin 52 .add (.t 46) (.t 51))⟩, ⟨none, (.mov 6 (.t 52))⟩]
def f4b25 : AQ := (.block 1 (.region f4r24))
def f4b26 : AQ := (.seq f4b25 (.region f4r23))
def f4b27 : AQ := (.cond (.t 43) .skip (.exit 0))
def f4r28 : List AI := [⟨none, (.mov 40 (.t 7))⟩, ⟨none, (.mov 41 (.t 0))⟩, ⟨none, (.len 42 (.t 41))⟩, ⟨none, (.bin 43 .lss (.t 40) (.t 42))⟩]
def f4b29 : AQ := (.seq (.region f4r28) f4b27)
def f4b30 : AQ := (.seq f4b29 f4b26)
def f4l31 : AQ := .loop [0, 3, 4, 6, 7] [4, 19, 20000, 20001, 20002] f4b30
theorem uf4l31 (P ts os Q) : awl P f4l31 Q ts os = awl P (.loop [0, 3, 4, 6, 7] [4, 19, 20000, 20001, 20002] f4b30) Q ts os := id rfl
def f4b32 : AQ := (.block 0 f4l31)
def f4r33 : List AI := [⟨none, (.mov 7 (.v (.k (.c (.int .i64 0)))))⟩]
def f4b34 : AQ := (.seq (.region f4r33) f4b32)
def f4b35 : AQ := (.seq f4b34 f4b22)
def f4r36 : List AI := [⟨none, (.mov 6 (.v (.k (.c (.str [])))))⟩]
def f4b37 : AQ := (.seq (.region f4r36) f4b35)
def f4r38 : List AI := [⟨none, (.mov 2 (.v (.k (.c (.bool false)))))⟩]
def f4b39 : AQ := (.seq (.region f4r38) .ret)
def f4b40 : AQ := (.cond (.t 39) f4b39 .skip)
def f4r41 : List AI := [⟨none, (.mov 22 (.t 5))⟩, ⟨none, (.un 23 .not (.t 22))⟩, ⟨none, (.mov 24 (.t 23))⟩, ⟨(some (24, false)), (.faddr 25 0 (.t 4))⟩, ⟨(some (24, false)), (.load 26 1 false (.t 25))⟩, ⟨(some (24, false)), (.len 27 (.t 26))⟩, ⟨(some (24, false)), (.bin 28 .neq (.t 27) (.v (.k (.c (.int .i64 80)))))⟩, ⟨none, (.pick 29 (.t 24) (.v (.k (.c (.bool true)))) (.t 28))⟩, ⟨none, (.mov 30 (.t 29))⟩, ⟨(some (30, false)), (.faddr 31 1 (.t 4))⟩, ⟨(some (30, false)), (.load 32 1 false (.t 31))⟩, ⟨(some (30, false)), (.len 33 (.t 32))⟩, ⟨(some (30, false)), (.bin 34 .gtr (.t 33) (.v (.k (.c (.int .i64 0)))))⟩, ⟨none, (.pick 35 (.t 30) (.v (.k (.c (.bool true)))) (.t 34))⟩, ⟨none, (.mov 36 (.t 35))⟩, ⟨(some (36, false)), (.faddr 37 3 (.t 4))⟩, ⟨(some (36, false)), (.load 38 1 false (.t 37))⟩, ⟨none, (.pick 39 (.t 36) (.v (.k (.c (.bool true)))) (.t 38))⟩]
def f4b42 : AQ := (.seq (.region f4r41) f4b40)
def f4b43 : AQ := (.seq f4b42 f4b37)
def f4r44 : List AI := [⟨none, (.mov 18 (.t 0))⟩, ⟨none, (.call (some 19) 9 [(.v (.k (.c (.int .i64 80)))), (.t 18)])⟩, ⟨none, (.mov 17 (.t 19))⟩, ⟨none, (.extr 20 (.t 17) 0)⟩, ⟨none, (.extr 21 (.t 17) 1)⟩, ⟨none, (.alloc 4 27 [(.list 0 (some true) []), (.list 0 (some true) []), (.int .i64 0), (.bool false)])⟩, ⟨none, (.store 4 (.t 4) (.t 20))⟩, ⟨none, (.mov 5 (.t 21))⟩]
def f4b45 : AQ := (.seq (.region f4r44) f4b43)
def f4r46 : List AI := [⟨none, (.mov 16 (.t 3))⟩, ⟨none, (.mov 2 (.t 16))⟩]
def f4b47 : AQ := (.seq (.region f4r46) .ret)
def f4b48 : AQ := (.cond (.t 15) f4b47 .skip)
def f4r49 : List AI := [⟨none, (.mov 13 (.t 0))⟩, ⟨none, (.call (some 14) 8 [(.t 13), (.v (.k (.c (.int .i64 8))))])⟩, ⟨none, (.un 15 .not (.t 14))⟩]
def f4b50 : AQ := (.seq (.region f4r49) f4b48)
def f4b51 : AQ := (.seq f4b50 f4b45)
def f4r52 : List AI := [⟨none, (.call (some 12) 7 [])⟩, ⟨none, (.mov 3 (.t 12))⟩]
def f4b53 : AQ := (.seq (.region f4r52) f4b51)
def f4r54 : List AI := [⟨none, (.mov 2 (.v (.k (.c (.bool false)))))⟩]
def f4b55 : AQ := (.seq (.region f4r54) f4b53)
def f4 : AQ := f4b55
theorem hf4 : cFunc Tryd.prog 4 = some ⟨112, f4.erase, [(RX.t 2)]⟩ := by kernel_rfl
theorem okf4 : f4.ok = true := by kernel_rfl
def f5r1 : List AI := [⟨none, (.mov 152 (.t 3))⟩, ⟨none, (.mov 2 (.t 152))⟩]
def f5b2 : AQ := (.seq (.region f5r1) .ret)
def f5r3 : List AI := [⟨none, (.mov 75 (.t 10))⟩, ⟨none, (.bin 76 .add (.t 75) (.v (.k (.c (.int .i64 1)))))⟩, ⟨none, (.mov 10 (.t 76))⟩]
def f5r4 : List AI := [⟨none, (.mov 134 (.t 19))⟩, ⟨none, (.bin 135 .add (.t 134) (.v (.k (.c (.int .i64 1)))))⟩, ⟨none, (.mov 19 (.t 135))⟩]
def f5r5 : List AI := [⟨none, (.mov 2 (.v (.k (.c (.bool false)))))⟩]
def f5b6 : AQ := (.seq (.region f5r5) .ret)
def f5b7 : AQ := (.cond (.t 151) f5b6 .skip)
def f5r8 : List AI := [⟨none, (.mov 142 (.t 21))⟩, ⟨none, (.bin 143 .neq (.t 142) (.v (.k (.c (.int .i64 0)))))⟩, ⟨none, (.mov 144 (.t 143))⟩, ⟨(some (144, false)), (.mov 145 (.t 20))⟩, ⟨(some (144, false)), (.mov 146 (.t 0))⟩, ⟨(some (144, false)), (.mov 147 (.t 19))⟩, ⟨(some (144, false)), (.iaddr 148 1 (.t 146) (.t 147))⟩, ⟨(some (144, false)), (.load 149 1 false (.t 148))⟩, ⟨(some (144, false)), (.bin 150 .neq (.t 145) (.t 149))⟩, ⟨none, (.pick 151 (.t 144) (.v (.k (.c (.bool true)))) (.t 150))⟩]
def f5b9 : AQ := (.seq (.region f5r8) f5b7)
def f5r10 : List AI := [⟨none, (.load 137 4 true (.t 13))⟩, ⟨none, (.mov 138 (.t 19))⟩, ⟨none, (.call (some 139) 22 [(.t 137), (.t 138)])⟩, ⟨none, (.mov 136 (.t 139))⟩, ⟨none, (.extr 140 (.t 136) 0)⟩, ⟨none, (.extr 141 (.t 136) 1)⟩, ⟨none, (.mov 20 (.t 140))⟩, ⟨none, (.mov 21 (.t 141))⟩]
def f5b11 : AQ := (.seq (.region f5r10) f5b9)
def f5b12 : AQ := (.block 5 f5b11)
def f5b13 : AQ := (.seq f5b12 (.region f5r4))
def f5b14 : AQ := (.cond (.t 133) .skip (.exit 4))
def f5r15 : List AI := [⟨none, (.mov 131 (.t 19))⟩, ⟨none, (.mov 132 (.t 10))⟩, ⟨none, (.bin 133 .lss (.t 131) (.t 132))⟩]
def f5b16 : AQ := (.seq (.region f5r15) f5b14)
def f5b17 : AQ := (.seq f5b16 f5b13)
def f5l18 : AQ := .loop [0, 3, 8, 10, 13, 19] [13, 37, 60, 82, 87, 83000, 83001, 83002, 88000, 88001, 88002] f5b17
theorem uf5l18 (P ts os Q) : awl P f5l18 Q ts os = awl P (.loop [0, 3, 8, 10, 13, 19] [13, 37, 60, 82, 87, 83000, 83001, 83002, 88000, 88001, 88002] f5b17) Q ts os := id rfl
def f5b19 : AQ := (.block 4 f5l18)
def f5r20 : List AI := [⟨none, (.mov 19 (.v (.k (.c (.int .i64 0)))))⟩]
def f5b21 : AQ := (.seq (.region f5r20) f5b19)
def f5r22 : List AI := [⟨none, (.mov 2 (.v (.k (.c (.bool false)))))⟩]
def f5b23 : AQ := (.seq (.region f5r22) .ret)
def f5b24 : AQ := (.cond (.t 130) f5b23 .skip)
def f5r25 : List AI := [⟨none, (.mov 103 (.t 12))⟩, ⟨none, (.bin 104 .neq (.t 103) (.v (.k (.c (.int .i64 0)))))⟩, ⟨none, (.mov 105 (.t 104))⟩, ⟨(some (105, false)), (.mov 106 (.t 14))⟩, ⟨(some (105, false)), (.bin 107 .neq (.t 106) (.v (.k (.c (.int .i64 0)))))⟩, ⟨none, (.pick 108 (.t 105) (.v (.k (.c (.bool true)))) (.t 107))⟩, ⟨none, (.mov 109 (.t 108))⟩, ⟨(some (109, false)), (.mov 110 (.t 16))⟩, ⟨(some (109, false)), (.bin 111 .neq (.t 110) (.v (.k (.c (.int .i64 0)))))⟩, ⟨none, (.pick 112 (.t 109) (.v (.k (.c (.bool true)))) (.t 111))⟩, ⟨none, (.mov 113 (.t 112))⟩, ⟨(some (113, false)), (.mov 114 (.t 18))⟩, ⟨(some (113, false)), (.bin 115 .neq (.t 114) (.v (.k (.c (.int .i64 0)))))⟩, ⟨none, (.pick 116 (.t 113) (.v (.k (.c (.bool true)))) (.t 115))⟩, ⟨none, (.mov 117 (.t 116))⟩, ⟨(some (117, false)), (.mov 118 (.t 15))⟩, ⟨(some (117, false)), (.mov 119 (.t 0))⟩, ⟨(some (117, false)), (.mov 120 (.t 10))⟩, ⟨(some (117, false)), (.slice 121 1 (.t 119) none (some (.t 120)))⟩, ⟨(some (117, false)), (.call (some 122) 21 [(.t 118), (.t 121)])⟩, ⟨(some (117, false)), (.un 123 .not (.t 122))⟩, ⟨none, (.pick 124 (.t 117) (.v (.k (.c (.bool true)))) (.t 123))⟩, ⟨none, (.mov 125 (.t 124))⟩, ⟨(some (125, false)), (.mov 126 (.t 17))⟩, ⟨(some (125, false)), (.mov 127 (.t 15))⟩, ⟨(some (125, false)), (.call (some 128) 21 [(.t 126), (.t 127)])⟩, ⟨(some (125, false)), (.un 129 .not (.t 128))⟩, ⟨none, (.pick 130 (.t 125) (.v (.k (.c (.bool true)))) (.t 129))⟩]
def f5b26 : AQ := (.seq (.region f5r25) f5b24)
def f5b27 : AQ := (.seq f5b26 f5b21)
def f5r28 : List AI := [⟨none, (.load 99 4 true (.t 13))⟩, ⟨none, (.call (some 100) 20 [(.t 99)])⟩, ⟨none, (.mov 98 (.t 100))⟩, ⟨none, (.extr 101 (.t 98) 0)⟩, ⟨none, (.extr 102 (.t 98) 1)⟩, ⟨none, (.mov 17 (.t 101))⟩, ⟨none, (.mov 18 (.t 102))⟩]
def f5b29 : AQ := (.seq (.region f5r28) f5b27)
def f5r30 : List AI := [⟨none, (.mov 91 (.t 8))⟩, ⟨none, (.mov 92 (.t 10))⟩, ⟨none, (.iaddr 93 4 (.t 91) (.t 92))⟩, ⟨none, (.load 94 4 true (.t 93))⟩, ⟨none, (.call (some 95) 20 [(.t 94)])⟩, ⟨none, (.mov 90 (.t 95))⟩, ⟨none, (.extr 96 (.t 90) 0)⟩, ⟨none, (.extr 97 (.t 90) 1)⟩, ⟨none, (.mov 15 (.t 96))⟩, ⟨none, (.mov 16 (.t 97))⟩]
def f5b31 : AQ := (.seq (.region f5r30) f5b29)
def f5r32 : List AI := [⟨none, (.load 86 4 true (.t 11))⟩, ⟨none, (.call (some 87) 19 [(.t 86)])⟩, ⟨none, (.mov 85 (.t 87))⟩, ⟨none, (.extr 88 (.t 85) 0)⟩, ⟨none, (.extr 89 (.t 85) 1)⟩, ⟨none, (.alloc 13 27 [(.list 0 (some true) []), (.list 0 (some true) []), (.int .i64 0), (.bool false)])⟩, ⟨none, (.store 4 (.t 13) (.t 88))⟩, ⟨none, (.mov 14 (.t 89))⟩]
def f5b33 : AQ := (.seq (.region f5r32) f5b31)
def f5r34 : List AI := [⟨none, (.mov 78 (.t 8))⟩, ⟨none, (.mov 79 (.t 10))⟩, ⟨none, (.iaddr 80 4 (.t 78) (.t 79))⟩, ⟨none, (.load 81 4 true (.t 80))⟩, ⟨none, (.call (some 82) 18 [(.t 81)])⟩, ⟨none, (.mov 77 (.t 82))⟩, ⟨none, (.extr 83 (.t 77) 0)⟩, ⟨none, (.extr 84 (.t 77) 1)⟩, ⟨none, (.alloc 11 27 [(.list 0 (some true) []), (.list 0 (some true) []), (.int .i64 0), (.bool false)])⟩, ⟨none, (.store 4 (.t 11) (.t 83))⟩, ⟨none, (.mov 12 (.t 84))⟩]
def f5b35 : AQ := (.seq (.region f5r34) f5b33)
def f5b36 : AQ := (.block 3 f5b35)
def f5b37 : AQ := (.seq f5b36 (.region f5r3))
def f5b38 : AQ := (.cond (.t 74) .skip (.exit 2))
def f5r39 : List AI := [⟨none, (.mov 71 (.t 10))⟩, ⟨none, (.mov 72 (.t 8))⟩, ⟨none, (.len 73 (.t 72))⟩, ⟨none, (.bin 74 .lss (.t 71) (.t 73))⟩]
def f5b40 : AQ := (.seq (.region f5r39) f5b38)
def f5b41 : AQ := (.seq f5b40 f5b37)
def f5l42 : AQ := .loop [0, 3, 8, 10] [37, 60] f5b41
theorem uf5l42 (P ts os Q) : awl P f5l42 Q ts os = awl P (.loop [0, 3, 8, 10] [37, 60] f5b41) Q ts os := id rfl
def f5b43 : AQ := (.block 2 f5l42)
def f5r44 : List AI := [⟨none, (.mov 10 (.v (.k (.c (.int .i64 0)))))⟩]
def f5b45 : AQ := (.seq (.region f5r44) f5b43)
def f5b46 : AQ := (.seq f5b45 f5b2)
def f5r47 : List AI := [⟨none, (.mov 2 (.v (.k (.c (.bool false)))))⟩]
def f5b48 : AQ := (.seq (.region f5r47) .ret)
def f5b49 : AQ := (.cond (.t 70) f5b48 .skip)
def f5r50 : List AI := [⟨none, (.mov 61 (.t 7))⟩, ⟨none, (.bin 62 .neq (.t 61) (.v (.k (.c (.int .i64 0)))))⟩, ⟨none, (.mov 63 (.t 62))⟩, ⟨(some (63, false)), (.mov 64 (.t 8))⟩, ⟨(some (63, false)), (.len 65 (.t 64))⟩, ⟨(some (63, false)), (.mov 66 (.t 0))⟩, ⟨(some (63, false)), (.len 67 (.t 66))⟩, ⟨(some (63, false)), (.bin 68 .add (.t 67) (.v (.k (.c (.int .i64 1)))))⟩, ⟨(some (63, false)), (.bin 69 .neq (.t 65) (.t 68))⟩, ⟨none, (.pick 70 (.t 63) (.v (.k (.c (.bool true)))) (.t 69))⟩]
def f5b51 : AQ := (.seq (.region f5r50) f5b49)
def f5b52 : AQ := (.seq f5b51 f5b46)
def f5r53 : List AI := [⟨none, (.mov 46 (.t 9))⟩, ⟨none, (.bin 47 .add (.t 46) (.v (.k (.c (.int .i64 1)))))⟩, ⟨none, (.mov 9 (.t 47))⟩]
def f5r54 : List AI := [⟨none, (.mov 57 (.t 8))⟩, ⟨none, (.load 58 4 true (.t 6))⟩, ⟨none, (.bslice 59 27 4 [(.list 0 (some true) []), (.list 0 (some true) []), (.int .i64 0), (.bool false)] 1 [(0, (.t 58))])⟩, ⟨none, (.append 60 27 4 64 (.t 57) (.t 59))⟩, ⟨none, (.mov 8 (.t 60))⟩]
def f5r55o0 : AI := ⟨none, (.load 49 4 true (.t 6))⟩
def f5r55o1 : AI := ⟨none, (.mov 50 (.t 0))⟩
def f5r55o2 : AI := ⟨none, (.mov 51 (.t 9))⟩
def f5r55o3 : AI := ⟨none, (.iaddr 52 1 (.t 50) (.t 51))⟩
def f5r55o4 : AI := ⟨none, (.load 53 1 false (.t 52))⟩
def f5r55o5 : AI := ⟨none, (.call (some 54) 11 [(.t 49), (.t 53)])⟩
def f5r55o6 : AI := ⟨none, (.mov 48 (.t 54))⟩
def f5r55o7 : AI := ⟨none, (.extr 55 (.t 48) 0)⟩
def f5r55o8 : AI := ⟨none, (.extr 56 (.t 48) 1)⟩
def f5r55o9 : AI := ⟨none, (.store 4 (.t 6) (.t 55))⟩
def f5r55o10 : AI := ⟨none, (.mov 7 (.t 56))⟩
def f5r55 : List AI := [f5r55o0, f5r55o1, f5r55o2, f5r55o3, f5r55o4, f5r55o5, f5r55o6, f5r55o7, f5r55o8, f5r55o9, f5r55o10]
theorem utf5r55 : treeOf f5r55 [[], [], [], [1, 2], [3], [0, 4], [5], [6], [6], [7, 5, 0, 1, 2, 3, 4, 5, 6, 7], [8, 9, 0, 1, 2, 3, 4, 5, 6, 7, 8, 9]] = (.one f5r55o0 (.one f5r55o1 (.one f5r55o2 (.one f5r55o3 (.one f5r55o4 (.one f5r55o5 (.one f5r55o6 (.one f5r55o7 (.alt (.one f5r55o8 (.one f5r55o9 (.one f5r55o10 .done))) (.alt (.one f5r55o9 (.one f5r55o8 (.one f5r55o10 .done))) .top)))))))))) := by kernel_rfl
def f5b56 : AQ := (.seq (.tree f5r55 [[], [], [], [1, 2], [3], [0, 4], [5], [6], [6], [7, 5, 0, 1, 2, 3, 4, 5, 6, 7], [8, 9, 0, 1, 2, 3, 4, 5, 6, 7, 8, 9]]) (.keep [0, 3, 6, 7, 8, 9] [6, 28, 33, 37, 54, 60, 29000, 29001, 29002, 34000, 34001, 34002, 55000, 55001, 55002] (.region f5r54)))
def f5b57 : AQ := (.block 1 f5b56)
def f5b58 : AQ := (.seq f5b57 (.region f5r53))
def f5b59 : AQ := (.cond (.t 45) .skip (.exit 0))
def f5r60 : List AI := [⟨none, (.mov 38 (.t 9))⟩, ⟨none, (.mov 39 (.t 0))⟩, ⟨none, (.len 40 (.t 39))⟩, ⟨none, (.bin 41 .lss (.t 38) (.t 40))⟩, ⟨none, (.mov 42 (.t 41))⟩, ⟨(some (42, true)), (.mov 43 (.t 7))⟩, ⟨(some (42, true)), (.bin 44 .eql (.t 43) (.v (.k (.c (.int .i64 0)))))⟩, ⟨none, (.pick 45 (.t 42) (.t 44) (.v (.k (.c (.bool false)))))⟩]
def f5b61 : AQ := (.seq (.region f5r60) f5b59)
def f5b62 : AQ := (.seq f5b61 f5b58)
def f5l63 : AQ := .loop [0, 3, 6, 7, 8, 9] [6, 28, 33, 37, 54, 60, 29000, 29001, 29002, 34000, 34001, 34002, 55000, 55001, 55002] f5b62
theorem uf5l63 (P ts os Q) : awl P f5l63 Q ts os = awl P (.loop [0, 3, 6, 7, 8, 9] [6, 28, 33, 37, 54, 60, 29000, 29001, 29002, 34000, 34001, 34002, 55000, 55001, 55002] f5b62) Q ts os := id rfl
def f5b64 : AQ := (.block 0 f5l63)
def f5r65 : List AI := [⟨none, (.mov 9 (.v (.k (.c (.int .i64 0)))))⟩]
def f5b66 : AQ := (.seq (.region f5r65) f5b64)
def f5b67 : AQ := (.seq f5b66 f5b52)
def f5r68 : List AI := [⟨none, (.load 36 4 true (.t 6))⟩, ⟨none, (.bslice 37 27 4 [(.list 0 (some true) []), (.list 0 (some true) []), (.int .i64 0), (.bool false)] 1 [(0, (.t 36))])⟩, ⟨none, (.mov 8 (.t 37))⟩]
def f5b69 : AQ := (.seq (.region f5r68) f5b67)
def f5r70 : List AI := [⟨none, (.load 32 4 true (.t 4))⟩, ⟨none, (.call (some 33) 17 [(.t 32)])⟩, ⟨none, (.mov 31 (.t 33))⟩, ⟨none, (.extr 34 (.t 31) 0)⟩, ⟨none, (.extr 35 (.t 31) 1)⟩, ⟨none, (.alloc 6 27 [(.list 0 (some true) []), (.list 0 (some true) []), (.int .i64 0), (.bool false)])⟩, ⟨none, (.store 4 (.t 6) (.t 34))⟩, ⟨none, (.mov 7 (.t 35))⟩]
def f5b71 : AQ := (.seq (.region f5r70) f5b69)
def f5r72 : List AI := [⟨none, (.call (some 28) 16 [(.v (.k (.c (.int .i64 80))))])⟩, ⟨none, (.mov 27 (.t 28))⟩, ⟨none, (.extr 29 (.t 27) 0)⟩, ⟨none, (.extr 30 (.t 27) 1)⟩, ⟨none, (.alloc 4 27 [(.list 0 (some true) []), (.list 0 (some true) []), (.int .i64 0), (.bool false)])⟩, ⟨none, (.store 4 (.t 4) (.t 29))⟩, ⟨none, (.mov 5 (.t 30))⟩]
def f5b73 : AQ := (.seq (.region f5r72) f5b71)
def f5r74 : List AI := [⟨none, (.mov 26 (.t 3))⟩, ⟨none, (.mov 2 (.t 26))⟩]
def f5b75 : AQ := (.seq (.region f5r74) .ret)
def f5b76 : AQ := (.cond (.t 25) f5b75 .skip)
def f5r77 : List AI := [⟨none, (.mov 23 (.t 0))⟩, ⟨none, (.call (some 24) 8 [(.t 23), (.v (.k (.c (.int .i64 8))))])⟩, ⟨none, (.un 25 .not (.t 24))⟩]
def f5b78 : AQ := (.seq (.region f5r77) f5b76)
def f5b79 : AQ := (.seq f5b78 f5b73)
def f5r80 : List AI := [⟨none, (.call (some 22) 7 [])⟩, ⟨none, (.mov 3 (.t 22))⟩]
def f5b81 : AQ := (.seq (.region f5r80) f5b79)
def f5r82 : List AI := [⟨none, (.mov 2 (.v (.k (.c (.bool false)))))⟩]
def f5b83 : AQ := (.seq (.region f5r82) f5b81)
def f5 : AQ := f5b83
theorem hf5 : cFunc Tryd.prog 5 = some ⟨153, f5.erase, [(RX.t 2)]⟩ := by kernel_rfl
theorem okf5 : f5.ok = true := by kernel_rfl
def f7r1 : List AI := [⟨none, (.mov 131 (.t 25))⟩, ⟨none, (.mov 132 (.t 131))⟩, ⟨(some (132, true)), (.mov 133 (.t 11))⟩, ⟨(some (132, true)), (.bslice 134 9 1 [(.str [])] 2 [(0, (.v (.k (.c (.str [97, 98]))))), (1, (.v (.k (.c (.str [])))))])⟩, ⟨(some (132, true)), (.call (some 135) 21 [(.t 133), (.t 134)])⟩, ⟨none, (.pick 136 (.t 132) (.t 135) (.v (.k (.c (.bool false)))))⟩, ⟨none, (.mov 137 (.t 136))⟩, ⟨(some (137, true)), (.mov 138 (.t 13))⟩, ⟨(some (137, true)), (.bin 139 .eql (.t 138) (.v (.k (.c (.int .i64 2)))))⟩, ⟨none, (.pick 140 (.t 137) (.t 139) (.v (.k (.c (.bool false)))))⟩, ⟨none, (.mov 141 (.t 140))⟩, ⟨(some (141, true)), (.mov 142 (.t 21))⟩, ⟨(some (141, true)), (.mov 143 (.t 11))⟩, ⟨(some (141, true)), (.call (some 144) 21 [(.t 142), (.t 143)])⟩, ⟨none, (.pick 145 (.t 141) (.t 144) (.v (.k (.c (.bool false)))))⟩, ⟨none, (.mov 146 (.t 145))⟩, ⟨(some (146, true)), (.mov 147 (.t 23))⟩, ⟨(some (146, true)), (.bin 148 .eql (.t 147) (.v (.k (.c (.str [97, 98])))))⟩, ⟨none, (.pick 149 (.t 146) (.t 148) (.v (.k (.c (.bool false)))))⟩, ⟨none, (.mov 0 (.t 149))⟩]
def f7b2 : AQ := (.seq (.region f7r1) .ret)
def f7r3 : List AI := [⟨none, (.mov 85 (.t 2))⟩, ⟨none, (.bin 86 .eql (.t 85) (.v (.k (.c (.int .i64 0)))))⟩, ⟨none, (.mov 87 (.t 86))⟩, ⟨(some (87, true)), (.mov 88 (.t 4))⟩, ⟨(some (87, true)), (.bin 89 .eql (.t 88) (.v (.k (.c (.int .i64 22)))))⟩, ⟨none, (.pick 90 (.t 87) (.t 89) (.v (.k (.c (.bool false)))))⟩, ⟨none, (.mov 91 (.t 90))⟩, ⟨(some (91, true)), (.mov 92 (.t 6))⟩, ⟨(some (91, true)), (.bin 93 .eql (.t 92) (.v (.k (.c (.int .i64 0)))))⟩, ⟨none, (.pick 94 (.t 91) (.t 93) (.v (.k (.c (.bool false)))))⟩, ⟨none, (.mov 95 (.t 94))⟩, ⟨(some (95, true)), (.mov 96 (.t 8))⟩, ⟨(some (95, true)), (.bin 97 .eql (.t 96) (.v (.k (.c (.int .i64 0)))))⟩, ⟨none, (.pick 98 (.t 95) (.t 97) (.v (.k (.c (.bool false)))))⟩, ⟨none, (.mov 99 (.t 98))⟩, ⟨(some (99, true)), (.mov 100 (.t 10))⟩, ⟨(some (99, true)), (.bin 101 .eql (.t 100) (.v (.k (.c (.int .i64 0)))))⟩, ⟨none, (.pick 102 (.t 99) (.t 101) (.v (.k (.c (.bool false)))))⟩, ⟨none, (.mov 103 (.t 102))⟩, ⟨(some (103, true)), (.mov 104 (.t 12))⟩, ⟨(some (103, true)), (.bin 105 .eql (.t 104) (.v (.k (.c (.int .i64 0)))))⟩, ⟨none, (.pick 106 (.t 103) (.t 105) (.v (.k (.c (.bool false)))))⟩, ⟨none, (.mov 107 (.t 106))⟩, ⟨(some (107, true)), (.mov 108 (.t 14))⟩, ⟨(some (107, true)), (.bin 109 .eql (.t 108) (.v (.k (.c (.int .i64 0)))))⟩, ⟨none, (.pick 110 (.t 107) (.t 109) (.v (.k (.c (.bool false)))))⟩, ⟨none, (.mov 111 (.t 110))⟩, ⟨(some (111, true)), (.mov 112 (.t 16))⟩, ⟨(some (111, true)), (.bin 113 .eql (.t 112) (.v (.k (.c (.int .i64 0)))))⟩, ⟨none, (.pick 114 (.t 111) (.t 113) (.v (.k (.c (.bool false)))))⟩, ⟨none, (.mov 115 (.t 114))⟩, ⟨(some (115, true)), (.mov 116 (.t 18))⟩, ⟨(some (115, true)), (.bin 117 .eql (.t 116) (.v (.k (.c (.int .i64 8)))))⟩, ⟨none, (.pick 118 (.t 115) (.t 117) (.v (.k (.c (.bool false)))))⟩, ⟨none, (.mov 119 (.t 118))⟩, ⟨(some (119, true)), (.mov 120 (.t 20))⟩, ⟨(some (119, true)), (.bin 121 .eql (.t 120) (.v (.k (.c (.int .i64 0)))))⟩, ⟨none, (.pick 122 (.t 119) (.t 121) (.v (.k (.c (.bool false)))))⟩, ⟨none, (.mov 123 (.t 122))⟩, ⟨(some (123, true)), (.mov 124 (.t 22))⟩, ⟨(some (123, true)), (.bin 125 .eql (.t 124) (.v (.k (.c (.int .i64 0)))))⟩, ⟨none, (.pick 126 (.t 123) (.t 125) (.v (.k (.c (.bool false)))))⟩, ⟨none, (.mov 127 (.t 126))⟩, ⟨(some (127, true)), (.mov 128 (.t 24))⟩, ⟨(some (127, true)), (.bin 129 .eql (.t 128) (.v (.k (.c (.int .i64 0)))))⟩, ⟨none, (.pick 130 (.t 127) (.t 129) (.v (.k (.c (.bool false)))))⟩, ⟨none, (.mov 25 (.t 130))⟩]
def f7b4 : AQ := (.seq (.region f7r3) f7b2)
def f7r5 : List AI := [⟨none, (.load 81 4 true (.t 9))⟩, ⟨none, (.call (some 82) 22 [(.t 81), (.v (.k (.c (.int .i64 0))))])⟩, ⟨none, (.mov 80 (.t 82))⟩, ⟨none, (.extr 83 (.t 80) 0)⟩, ⟨none, (.extr 84 (.t 80) 1)⟩, ⟨none, (.mov 23 (.t 83))⟩, ⟨none, (.mov 24 (.t 84))⟩]
def f7b6 : AQ := (.seq (.region f7r5) f7b4)
def f7r7 : List AI := [⟨none, (.load 76 4 true (.t 19))⟩, ⟨none, (.call (some 77) 20 [(.t 76)])⟩, ⟨none, (.mov 75 (.t 77))⟩, ⟨none, (.extr 78 (.t 75) 0)⟩, ⟨none, (.extr 79 (.t 75) 1)⟩, ⟨none, (.mov 21 (.t 78))⟩, ⟨none, (.mov 22 (.t 79))⟩]
def f7b8 : AQ := (.seq (.region f7r7) f7b6)
def f7r9 : List AI := [⟨none, (.load 71 4 true (.t 17))⟩, ⟨none, (.call (some 72) 26 [(.t 71)])⟩, ⟨none, (.mov 70 (.t 72))⟩, ⟨none, (.extr 73 (.t 70) 0)⟩, ⟨none, (.extr 74 (.t 70) 1)⟩, ⟨none, (.alloc 19 27 [(.list 0 (some true) []), (.list 0 (some true) []), (.int .i64 0), (.bool false)])⟩, ⟨none, (.store 4 (.t 19) (.t 73))⟩, ⟨none, (.mov 20 (.t 74))⟩]
def f7b10 : AQ := (.seq (.region f7r9) f7b8)
def f7r11 : List AI := [⟨none, (.load 66 4 true (.t 15))⟩, ⟨none, (.call (some 67) 11 [(.t 66), (.v (.k (.c (.str [99]))))])⟩, ⟨none, (.mov 65 (.t 67))⟩, ⟨none, (.extr 68 (.t 65) 0)⟩, ⟨none, (.extr 69 (.t 65) 1)⟩, ⟨none, (.alloc 17 27 [(.list 0 (some true) []), (.list 0 (some true) []), (.int .i64 0), (.bool false)])⟩, ⟨none, (.store 4 (.t 17) (.t 68))⟩, ⟨none, (.mov 18 (.t 69))⟩]
def f7b12 : AQ := (.seq (.region f7r11) f7b10)
def f7r13 : List AI := [⟨none, (.load 61 4 true (.t 9))⟩, ⟨none, (.call (some 62) 25 [(.t 61), (.v (.k (.c (.int .i64 1))))])⟩, ⟨none, (.mov 60 (.t 62))⟩, ⟨none, (.extr 63 (.t 60) 0)⟩, ⟨none, (.extr 64 (.t 60) 1)⟩, ⟨none, (.alloc 15 27 [(.list 0 (some true) []), (.list 0 (some true) []), (.int .i64 0), (.bool false)])⟩, ⟨none, (.store 4 (.t 15) (.t 63))⟩, ⟨none, (.mov 16 (.t 64))⟩]
def f7b14 : AQ := (.seq (.region f7r13) f7b12)
def f7r15 : List AI := [⟨none, (.load 56 4 true (.t 9))⟩, ⟨none, (.call (some 57) 24 [(.t 56)])⟩, ⟨none, (.mov 55 (.t 57))⟩, ⟨none, (.extr 58 (.t 55) 0)⟩, ⟨none, (.extr 59 (.t 55) 1)⟩, ⟨none, (.mov 13 (.t 58))⟩, ⟨none, (.mov 14 (.t 59))⟩]
def f7b16 : AQ := (.seq (.region f7r15) f7b14)
def f7r17 : List AI := [⟨none, (.load 51 4 true (.t 9))⟩, ⟨none, (.call (some 52) 20 [(.t 51)])⟩, ⟨none, (.mov 50 (.t 52))⟩, ⟨none, (.extr 53 (.t 50) 0)⟩, ⟨none, (.extr 54 (.t 50) 1)⟩, ⟨none, (.mov 11 (.t 53))⟩, ⟨none, (.mov 12 (.t 54))⟩]
def f7b18 : AQ := (.seq (.region f7r17) f7b16)
def f7r19 : List AI := [⟨none, (.load 46 4 true (.t 7))⟩, ⟨none, (.call (some 47) 11 [(.t 46), (.v (.k (.c (.str []))))])⟩, ⟨none, (.mov 45 (.t 47))⟩, ⟨none, (.extr 48 (.t 45) 0)⟩, ⟨none, (.extr 49 (.t 45) 1)⟩, ⟨none, (.alloc 9 27 [(.list 0 (some true) []), (.list 0 (some true) []), (.int .i64 0), (.bool false)])⟩, ⟨none, (.store 4 (.t 9) (.t 48))⟩, ⟨none, (.mov 10 (.t 49))⟩]
def f7b20 : AQ := (.seq (.region f7r19) f7b18)
def f7r21 : List AI := [⟨none, (.load 41 4 true (.t 5))⟩, ⟨none, (.call (some 42) 11 [(.t 41), (.v (.k (.c (.str [97, 98]))))])⟩, ⟨none, (.mov 40 (.t 42))⟩, ⟨none, (.extr 43 (.t 40) 0)⟩, ⟨none, (.extr 44 (.t 40) 1)⟩, ⟨none, (.alloc 7 27 [(.list 0 (some true) []), (.list 0 (some true) []), (.int .i64 0), (.bool false)])⟩, ⟨none, (.store 4 (.t 7) (.t 43))⟩, ⟨none, (.mov 8 (.t 44))⟩]
def f7b22 : AQ := (.seq (.region f7r21) f7b20)
def f7r23 : List AI := [⟨none, (.load 36 4 true (.t 1))⟩, ⟨none, (.call (some 37) 17 [(.t 36)])⟩, ⟨none, (.mov 35 (.t 37))⟩, ⟨none, (.extr 38 (.t 35) 0)⟩, ⟨none, (.extr 39 (.t 35) 1)⟩, ⟨none, (.alloc 5 27 [(.list 0 (some true) []), (.list 0 (some true) []), (.int .i64 0), (.bool false)])⟩, ⟨none, (.store 4 (.t 5) (.t 38))⟩, ⟨none, (.mov 6 (.t 39))⟩]
def f7b24 : AQ := (.seq (.region f7r23) f7b22)
def f7r25 : List AI := [⟨none, (.load 31 4 true (.t 1))⟩, ⟨none, (.call (some 32) 20 [(.t 31)])⟩, ⟨none, (.mov 30 (.t 32))⟩, ⟨none, (.extr 33 (.t 30) 0)⟩, ⟨none, (.extr 34 (.t 30) 1)⟩, ⟨none, (.mov 3 (.t 33))⟩, ⟨none, (.mov 4 (.t 34))⟩]
def f7b26 : AQ := (.seq (.region f7r25) f7b24)
def f7r27 : List AI := [⟨none, (.call (some 27) 16 [(.v (.k (.c (.int .i64 5))))])⟩, ⟨none, (.mov 26 (.t 27))⟩, ⟨none, (.extr 28 (.t 26) 0)⟩, ⟨none, (.extr 29 (.t 26) 1)⟩, ⟨none, (.alloc 1 27 [(.list 0 (some true) []), (.list 0 (some true) []), (.int .i64 0), (.bool false)])⟩, ⟨none, (.store 4 (.t 1) (.t 28))⟩, ⟨none, (.mov 2 (.t 29))⟩]
def f7b28 : AQ := (.seq (.region f7r27) f7b26)
def f7r29 : List AI := [⟨none, (.mov 0 (.v (.k (.c (.bool false)))))⟩]
def f7b30 : AQ := (.seq (.region f7r29) f7b28)
def f7 : AQ := f7b30
theorem hf7 : cFunc Tryd.prog 7 = some ⟨150, f7.erase, [(RX.t 0)]⟩ := by kernel_rfl
theorem okf7 : f7.ok = true := by kernel_rfl
def f8r1 : List AI := [⟨none, (.mov 18 (.t 0))⟩, ⟨none, (.len 19 (.t 18))⟩, ⟨none, (.mov 20 (.t 1))⟩, ⟨none, (.bin 21 .leq (.t 19) (.t 20))⟩, ⟨none, (.mov 4 (.t 21))⟩]
def f8b2 : AQ := (.seq (.region f8r1) .ret)
def f8r3 : List AI := [⟨none, (.mov 10 (.t 5))⟩, ⟨none, (.bin 11 .add (.t 10) (.v (.k (.c (.int .i64 1)))))⟩, ⟨none, (.mov 5 (.t 11))⟩]
def f8r4 : List AI := [⟨none, (.mov 4 (.v (.k (.c (.bool false)))))⟩]
def f8b5 : AQ := (.seq (.region f8r4) .ret)
def f8b6 : AQ := (.cond (.t 17) f8b5 .skip)
def f8r7 : List AI := [⟨none, (.mov 12 (.t 0))⟩, ⟨none, (.mov 13 (.t 5))⟩, ⟨none, (.iaddr 14 1 (.t 12) (.t 13))⟩, ⟨none, (.load 15 1 false (.t 14))⟩, ⟨none, (.lenS 16 (.t 15))⟩, ⟨none, (.bin 17 .gtr (.t 16) (.v (.k (.c (.int .i64 100)))))⟩]
def f8b8 : AQ := (.seq (.region f8r7) f8b6)
def f8b9 : AQ := (.block 1 f8b8)
def f8b10 : AQ := (.seq f8b9 (.region f8r3))
def f8b11 : AQ := (.cond (.t 9) .skip (.exit 0))
def f8r12 : List AI := [⟨none, (.mov 6 (.t 5))⟩, ⟨none, (.mov 7 (.t 0))⟩, ⟨none, (.len 8 (.t 7))⟩, ⟨none, (.bin 9 .lss (.t 6) (.t 8))⟩]
def f8b13 : AQ := (.seq (.region f8r12) f8b11)
def f8b14 : AQ := (.seq f8b13 f8b10)
def f8l15 : AQ := .loop [0, 1, 5] [] f8b14
theorem uf8l15 (P ts os Q) : awl P f8l15 Q ts os = awl P (.loop [0, 1, 5] [] f8b14) Q ts os := id rfl
def f8b16 : AQ := (.block 0 f8l15)
def f8r17 : List AI := [⟨none, (.mov 5 (.v (.k (.c (.int .i64 0)))))⟩]
def f8b18 : AQ := (.seq (.region f8r17) f8b16)
def f8b19 : AQ := (.seq f8b18 f8b2)
def f8r20 : List AI := [⟨none, (.mov 4 (.v (.k (.c (.bool false)))))⟩]
def f8b21 : AQ := (.seq (.region f8r20) f8b19)
def f8 : AQ := f8b21
theorem hf8 : cFunc Tryd.prog 8 = some ⟨22, f8.erase, [(RX.t 4)]⟩ := by kernel_rfl
theorem okf8 : f8.ok = true := by kernel_rfl
def f9r1 : List AI := [⟨none, (.load 40 4 true (.t 8))⟩, ⟨none, (.mov 41 (.t 9))⟩, ⟨none, (.bin 42 .eql (.t 41) (.v (.k (.c (.int .i64 0)))))⟩, ⟨none, (.store 4 (.t 4) (.t 40))⟩, ⟨none, (.mov 5 (.t 42))⟩]
def f9b2 : AQ := (.seq (.region f9r1) .ret)
def f9r3 : List AI := [⟨none, (.mov 29 (.t 10))⟩, ⟨none, (.bin 30 .add (.t 29) (.v (.k (.c (.int .i64 1)))))⟩, ⟨none, (.mov 10 (.t 30))⟩]
def f9r4o0 : AI := ⟨none, (.load 32 4 true (.t 8))⟩
def f9r4o1 : AI := ⟨none, (.mov 33 (.t 1))⟩
def f9r4o2 : AI := ⟨none, (.mov 34 (.t 10))⟩
def f9r4o3 : AI := ⟨none, (.iaddr 35 1 (.t 33) (.t 34))⟩
def f9r4o4 : AI := ⟨none, (.load 36 1 false (.t 35))⟩
def f9r4o5 : AI := ⟨none, (.call (some 37) 11 [(.t 32), (.t 36)])⟩
def f9r4o6 : AI := ⟨none, (.mov 31 (.t 37))⟩
def f9r4o7 : AI := ⟨none, (.extr 38 (.t 31) 0)⟩
def f9r4o8 : AI := ⟨none, (.extr 39 (.t 31) 1)⟩
def f9r4o9 : AI := ⟨none, (.store 4 (.t 8) (.t 38))⟩
def f9r4o10 : AI := ⟨none, (.mov 9 (.t 39))⟩
def f9r4 : List AI := [f9r4o0, f9r4o1, f9r4o2, f9r4o3, f9r4o4, f9r4o5, f9r4o6, f9r4o7, f9r4o8, f9r4o9, f9r4o10]
theorem utf9r4 : treeOf f9r4 [[], [], [], [1, 2], [3], [0, 4], [5], [6], [6], [7, 5, 0, 1, 2, 3, 4, 5, 6, 7], [8, 9, 0, 1, 2, 3, 4, 5, 6, 7, 8, 9]] = (.one f9r4o0 (.one f9r4o1 (.one f9r4o2 (.one f9r4o3 (.one f9r4o4 (.one f9r4o5 (.one f9r4o6 (.one f9r4o7 (.alt (.one f9r4o8 (.one f9r4o9 (.one f9r4o10 .done))) (.alt (.one f9r4o9 (.one f9r4o8 (.one f9r4o10 .done))) .top)))))))))) := by kernel_rfl
def f9b5 : AQ := (.block 1 (.tree f9r4 [[], [], [], [1, 2], [3], [0, 4], [5], [6], [6], [7, 5, 0, 1, 2, 3, 4, 5, 6, 7], [8, 9, 0, 1, 2, 3, 4, 5, 6, 7, 8, 9]]))
def f9b6 : AQ := (.seq f9b5 (.region f9r3))
def f9b7 : AQ := (.cond (.t 28) .skip (.exit 0))
def f9r8 : List AI := [⟨none, (.mov 21 (.t 10))⟩, ⟨none, (.mov 22 (.t 1))⟩, ⟨none, (.len 23 (.t 22))⟩, ⟨none, (.bin 24 .lss (.t 21) (.t 23))⟩, ⟨none, (.mov 25 (.t 24))⟩, ⟨(some (25, true)), (.mov 26 (.t 9))⟩, ⟨(some (25, true)), (.bin 27 .eql (.t 26) (.v (.k (.c (.int .i64 0)))))⟩, ⟨none, (.pick 28 (.t 25) (.t 27) (.v (.k (.c (.bool false)))))⟩]
def f9b9 : AQ := (.seq (.region f9r8) f9b7)
def f9b10 : AQ := (.seq f9b9 f9b6)
def f9l11 : AQ := .loop [1, 4, 8, 9, 10] [4, 8, 13, 18, 37, 14000, 14001, 14002, 19000, 19001, 19002, 38000, 38001, 38002] f9b10
theorem uf9l11 (P ts os Q) : awl P f9l11 Q ts os = awl P (.loop [1, 4, 8, 9, 10] [4, 8, 13, 18, 37, 14000, 14001, 14002, 19000, 19001, 19002, 38000, 38001, 38002] f9b10) Q ts os := id rfl
def f9b12 : AQ := (.block 0 f9l11)
def f9r13 : List AI := [⟨none, (.mov 10 (.v (.k (.c (.int .i64 0)))))⟩]
def f9b14 : AQ := (.seq (.region f9r13) f9b12)
def f9b15 : AQ := (.seq f9b14 f9b2)
def f9r16 : List AI := [⟨none, (.load 17 4 true (.t 6))⟩, ⟨none, (.call (some 18) 17 [(.t 17)])⟩, ⟨none, (.mov 16 (.t 18))⟩, ⟨none, (.extr 19 (.t 16) 0)⟩, ⟨none, (.extr 20 (.t 16) 1)⟩, ⟨none, (.alloc 8 27 [(.list 0 (some true) []), (.list 0 (some true) []), (.int .i64 0), (.bool false)])⟩, ⟨none, (.store 4 (.t 8) (.t 19))⟩, ⟨none, (.mov 9 (.t 20))⟩]
def f9b17 : AQ := (.seq (.region f9r16) f9b15)
def f9r18 : List AI := [⟨none, (.mov 12 (.t 0))⟩, ⟨none, (.call (some 13) 16 [(.t 12)])⟩, ⟨none, (.mov 11 (.t 13))⟩, ⟨none, (.extr 14 (.t 11) 0)⟩, ⟨none, (.extr 15 (.t 11) 1)⟩, ⟨none, (.alloc 6 27 [(.list 0 (some true) []), (.list 0 (some true) []), (.int .i64 0), (.bool false)])⟩, ⟨none, (.store 4 (.t 6) (.t 14))⟩, ⟨none, (.mov 7 (.t 15))⟩]
def f9b19 : AQ := (.seq (.region f9r18) f9b17)
def f9r20 : List AI := [⟨none, (.alloc 4 27 [(.list 0 (some true) []), (.list 0 (some true) []), (.int .i64 0), (.bool false)])⟩, ⟨none, (.mov 5 (.v (.k (.c (.bool false)))))⟩]
def f9b21 : AQ := (.seq (.region f9r20) f9b19)
def f9 : AQ := f9b21
theorem hf9 : cFunc Tryd.prog 9 = some ⟨43, f9.erase, [(RX.cell 4 4 true), (RX.t 5)]⟩ := by kernel_rfl
theorem okf9 : f9.ok = true := by kernel_rfl
end Go.Abs


namespace Go.Abs
theorem wrap_in {n : Int} (h1 : -9223372036854775808 ≤ n) (h2 : n ≤ 9223372036854775807) : IntKind.i64.wrap n = n := IntWalk.i64_in n ⟨h1, h2⟩
def lstC (sz : Nat) (rows : List (List C)) : C := .list (if rows.isEmpty then 0 else sz) none rows
abbrev lst (sz : Nat) (rows : List (List C)) : V := .k (.c (lstC sz rows))
def ints (l : List Int) : List (List C) := l.map fun n => [.int .i64 n]
theorem normRows_eq {α : Type} {f : α → List C} (hf : ∀ x, C.normRow (f x) = f x) (l : List α) : C.normRows (l.map f) = l.map f := by
  induction l with
  | nil => rfl
  | cons a l ih => simp [C.normRows, hf, ih]
theorem lstC_norm {α : Type} {f : α → List C} (hf : ∀ x, C.normRow (f x) = f x) (sz : Nat) (l : List α) : (lstC sz (l.map f)).norm = lstC sz (l.map f) := by
  unfold lstC
  simp only [C.norm, normRows_eq hf]
  cases l <;> simp
inductive Term where
  | mk (op n : Int) (args : List Term)
  deriving Inhabited
def Term.op : Term → Int | .mk o _ _ => o
def Term.n : Term → Int | .mk _ n _ => n
def Term.args : Term → List Term | .mk _ _ a => a
mutual
def encT : Term → List C
  | .mk o n a => [.int .i64 o, .int .i64 n, lstC 3 (encTs a)]
def encTs : List Term → List (List C)
  | [] => []
  | t :: l => encT t :: encTs l
end
theorem encTs_map : ∀ (l : List Term), encTs l = l.map encT
  | [] => rfl
  | t :: l => by simp [encTs, encTs_map l]
theorem encT_eq (t : Term) : encT t = [.int .i64 t.op, .int .i64 t.n, lstC 3 (t.args.map encT)] := by
  cases t with
  | mk o n a => simp [encT, Term.op, Term.n, Term.args, encTs_map]
mutual
theorem encT_norm : ∀ (t : Term), C.normRow (encT t) = encT t
  | .mk o n a => by
    simp only [encT, C.normRow, C.norm, lstC, encTs_norm a]
    cases a <;> simp [encTs]
theorem encTs_norm : ∀ (l : List Term), C.normRows (encTs l) = encTs l
  | [] => rfl
  | t :: l => by simp only [encTs, C.normRows, encT_norm t, encTs_norm l]
end
structure Choice where
  ask : Int
  by_ : Int
  whole : Bool
  deriving Inhabited
structure Rule where
  ask : Int
  term : Term
  deriving Inhabited
structure Order where
  name : List UInt8
  accepts : Bool
  choices : List Choice
  rules : List Rule
  deriving Inhabited
def encChoice (c : Choice) : List C := [.int .i64 c.ask, .int .i64 c.by_, .bool c.whole]
def encRule (r : Rule) : List C := .int .i64 r.ask :: encT r.term
def encOrder (o : Order) : List C := [.str o.name, .bool o.accepts, lstC 3 (o.choices.map encChoice), lstC 4 (o.rules.map encRule)]
theorem encChoice_norm (c : Choice) : C.normRow (encChoice c) = encChoice c := rfl
theorem encRule_norm (r : Rule) : C.normRow (encRule r) = encRule r := by simp [encRule, C.normRow, C.norm, encT_norm]
theorem encOrder_norm (o : Order) : C.normRow (encOrder o) = encOrder o := by
  simp only [encOrder, C.normRow, C.norm, lstC_norm encChoice_norm, lstC_norm encRule_norm]
structure Cell where
  known : Bool
  n : Int
  deriving Inhabited
def encCell (c : Cell) : List C := [.bool c.known, .int .i64 c.n]
theorem encCell_norm (c : Cell) : C.normRow (encCell c) = encCell c := rfl
def encI (n : Int) : List C := [.int .i64 n]
@[simp] theorem normRow_int (k : IntKind) (n : Int) : C.normRow [.int k n] = [.int k n] := rfl
@[simp] theorem normRow_encI (n : Int) : C.normRow (encI n) = encI n := rfl
attribute [simp] encT_norm encChoice_norm encRule_norm encOrder_norm encCell_norm C.normRow
@[simp] theorem norm_int (k : IntKind) (n : Int) : (C.int k n).norm = .int k n := rfl
@[simp] theorem norm_bool (b : Bool) : (C.bool b).norm = .bool b := rfl
@[simp] theorem norm_str (s : List UInt8) : (C.str s).norm = .str s := rfl
@[simp] theorem norm_ro (row : List C) (off : Nat) : (C.ro row off).norm = .ro (C.normRow row) off := rfl
@[simp] theorem norm_fn (f : FuncId) (caps : List C) : (C.fn f caps).norm = .fn f (C.normRow caps) := rfl
@[simp] theorem normRows_T (l : List Term) : C.normRows (l.map encT) = l.map encT := normRows_eq encT_norm l
@[simp] theorem normRows_Ch (l : List Choice) : C.normRows (l.map encChoice) = l.map encChoice := normRows_eq encChoice_norm l
@[simp] theorem normRows_R (l : List Rule) : C.normRows (l.map encRule) = l.map encRule := normRows_eq encRule_norm l
@[simp] theorem normRows_O (l : List Order) : C.normRows (l.map encOrder) = l.map encOrder := normRows_eq encOrder_norm l
@[simp] theorem normRows_Ce (l : List Cell) : C.normRows (l.map encCell) = l.map encCell := normRows_eq encCell_norm l
@[simp] theorem normRows_ints (l : List Int) : C.normRows (ints l) = ints l := normRows_eq (fun _ => rfl) l
@[simp] theorem normRows_nil : C.normRows [] = [] := rfl
@[simp] theorem normRows_cons (r : List C) (l : List (List C)) : C.normRows (r :: l) = C.normRow r :: C.normRows l := rfl
@[simp] theorem ints_len (l : List Int) : (ints l).length = l.length := by simp [ints]
@[simp] theorem ints_isEmpty (l : List Int) : (ints l).isEmpty = l.isEmpty := by cases l <;> rfl
theorem r_vLen_lst (o : Nat → Option O) (sz : Nat) (rows : List (List C)) : vLen o (.k (.c (lstC sz rows))) = some (True, .int .i64 rows.length) := rfl
theorem r_vIaddr_lst (o : Nat → Option O) (sz : Nat) (rows : List (List C)) (k : IntKind) (n : Int) : vIaddr o sz (.k (.c (lstC sz rows))) (.k (.c (.int k n))) = some (0 ≤ n ∧ n < rows.length, .k (.pel sz rows n.toNat 0)) := by
  simp only [lstC, vIaddr, Option.some.injEq, Prod.mk.injEq]
  cases rows with
  | nil => simp; omega
  | cons a l =>
    refine ⟨?_, ?_⟩
    · simp
    · simp
def cutS2 (sz : Nat) (rows : List (List C)) : Option Int → Option Int → Option (Prop × V)
  | some l, some h => some (0 ≤ l ∧ l ≤ h ∧ h ≤ rows.length, .list sz none ((rows.take h.toNat).drop l.toNat))
  | _, _ => none
theorem r_vSlice_lst (sz : Nat) (lo hi : Option V) (rows : List (List C)) : vSlice sz lo hi (.k (.c (lstC sz rows))) = cutS2 sz rows (vBound 0 lo) (vBound rows.length hi) := by
  simp only [lstC, vSlice]
  generalize vBound 0 lo = a
  generalize vBound (↑rows.length) hi = b
  cases a <;> cases b <;> simp only [cutL, cutS2]
  simp only [Option.some.injEq, Prod.mk.injEq, and_true]
  cases rows <;> simp
theorem r_cutS2 (sz : Nat) (rows : List (List C)) (l h : Int) : cutS2 sz rows (some l) (some h) = some (0 ≤ l ∧ l ≤ h ∧ h ≤ rows.length, .list sz none ((rows.take h.toNat).drop l.toNat)) := id rfl
@[simp] theorem norm_lst (sz : Nat) (rows : List (List C)) : (lstC sz rows).norm = lstC sz (C.normRows rows) := by
  unfold lstC
  simp only [C.norm]
  cases rows <;> simp [C.normRows]
@[simp] theorem norm_list (sz : Nat) (nl : Option Bool) (rows : List (List C)) : (C.list sz nl rows).norm = lstC sz (C.normRows rows) := by
  unfold lstC
  simp only [C.norm]
  cases rows <;> simp [C.normRows]
theorem len_lst {sz : Nat} {rows : List (List C)} {l : List V} (hm : lst sz rows ∈ l) (h : ∀ v, v ∈ l → ∀ c, c ∈ v.topC → ∀ sz nl rows, c = .list sz nl rows → rows.length ≤ 9223372036854775807) : rows.length ≤ 9223372036854775807 :=
  h _ hm (lstC sz rows) (by simp [V.topC]) _ _ _ rfl
section
variable {P : Program} {f : FuncId} {vs : List V} {K : KK} {d : Nat} {ts : TS} {os : OS}
theorem call_s {args : List V} {r : V} {X : Prop} (hs : Spec P f args (fun r' => r' = r)) (hk : K (insT d r ts) os)
    (hp : vs.all (fun v => (lendL os v).isPure) = true := by simp [lendL, lendO, lookO, V.isPure])
    (ha : vs.map (fun v => (lendL os v).norm) = args := by simp [lendL, lendO, lookO, V.norm, encT_eq, encRule, encOrder, encChoice, encCell, norm_list, lst]) (hr : r.scalar = true := by rfl) : callK P f vs [] K (some d) ts os ∨ X := by
  refine .inl ⟨hp, r, .inl ?_, ?_⟩
  · simpa [ha] using hs
  · rw [if_pos hr]; exact hk
theorem call_r {args : List V} {r : V} {X : Prop} (hs : Spec P f args (fun r' => r' = r)) (hk : retK r K ts os (some d))
    (hp : vs.all (fun v => (lendL os v).isPure) = true := by simp [lendL, lendO, lookO, V.isPure])
    (ha : vs.map (fun v => (lendL os v).norm) = args := by simp [lendL, lendO, lookO, V.norm, encT_eq, encRule, encOrder, encChoice, encCell, norm_list, lst])
    (ht : vs.all (fun v => v.toks.isEmpty) = true := by simp [V.toks, K.toks]) (hr : r.scalar = false := by rfl) : callK P f vs [] K (some d) ts os ∨ X := by
  refine .inl ⟨hp, r, .inl (by simpa [ha] using hs), ?_⟩
  rw [if_neg (by simp [hr])]
  exact ⟨ht, hk⟩
end
end Go.Abs


set_option maxRecDepth 100000
namespace Go.Abs
theorem Qs : ((((((((type_of% @q_insT_eq_1 ∧ type_of% @q_wpLs_eq_2) ∧ (type_of% @q_wpL_eq_1 ∧ type_of% @q_look_eq_1)) ∧ ((type_of% @lookT_here ∧ type_of% @q_exL_eq_1) ∧ (type_of% @q_wpLs_eq_1 ∧ (type_of% @lookT_next ∧ type_of% @true_and)))) ∧ (((type_of% @q_AE_thenL_eq_1 ∧ type_of% @q_awl_eq_2) ∧ (type_of% @q_putK_eq_1 ∧ type_of% @q_awl_eq_5)) ∧ ((type_of% @q_look_eq_2 ∧ type_of% @q_List_map_nil) ∧ (type_of% @q_List_map_cons ∧ (type_of% @Nat.zero_add ∧ type_of% @q_List_length_nil))))) ∧ ((((type_of% @lookO_here ∧ type_of% @q_List_length_cons) ∧ (type_of% @q_List_drop_zero ∧ type_of% @q_List_take_zero)) ∧ ((type_of% @q_vBin_eq_1 ∧ type_of% @q_resV_eq_1) ∧ (type_of% @q_List_take_succ_cons ∧ (type_of% @Nat.le_refl ∧ type_of% @and_self)))) ∧ (((type_of% @q_exL_eq_11 ∧ type_of% @q_Option_map_some) ∧ (type_of% @q_awl_eq_6 ∧ (type_of% @q_condK_eq_1 ∧ type_of% @q_learn_eq_1))) ∧ ((type_of% @q_pureRow_eq_1 ∧ type_of% @q_pureRow_eq_2) ∧ (type_of% @q_binV_eq_1 ∧ (type_of% @q_binInt_eq_3 ∧ type_of% @q_loadO_eq_1)))))) ∧ (((((type_of% @q_isV_eq_1 ∧ type_of% @q_vLoad_eq_1) ∧ (type_of% @q_insO_eq_1 ∧ type_of% @q_exL_eq_8)) ∧ ((type_of% @q_mapT_eq_1 ∧ type_of% @q_mapT_eq_2) ∧ (type_of% @q_mapO_eq_1 ∧ (type_of% @q_List_drop_succ_cons ∧ type_of% @q_ofRow_eq_2)))) ∧ (((type_of% @q_condB_eq_2 ∧ type_of% @q_awl_eq_10) ∧ (type_of% @q_endK_eq_2 ∧ (type_of% @q_endL_eq_1 ∧ type_of% @q_endV_eq_1))) ∧ ((type_of% @q_resL_eq_1 ∧ type_of% @q_resL_eq_2) ∧ (type_of% @q_V_nrm_eq_1 ∧ (type_of% @q_K_nrm_eq_1 ∧ type_of% @q_exL_eq_28))))) ∧ ((((type_of% @q_resX_eq_1 ∧ type_of% @q_V_owns_eq_1) ∧ (type_of% @q_K_owns_eq_2 ∧ type_of% @q_V_toNew_eq_1)) ∧ ((type_of% @q_K_toNew_eq_1 ∧ type_of% @q_List_nil_append) ∧ (type_of% @q_C_norm_eq_4 ∧ (type_of% @q_C_norm_eq_5 ∧ type_of% @q_splice_eq_1)))) ∧ (((type_of% @q_stVarK_eq_1 ∧ type_of% @q_storeK_eq_1) ∧ (type_of% @q_awl_eq_1 ∧ (type_of% @q_condB_eq_1 ∧ type_of% @q_exL_eq_9))) ∧ ((type_of% @Bool.false_eq_true ∧ type_of% @q_exL_eq_3) ∧ (type_of% @lookO_next ∧ (type_of% @q_V_cells_eq_2 ∧ type_of% @q_mapO_eq_2))))))) ∧ ((((((type_of% @q_AOp_dst_eq_10 ∧ type_of% @q_AOp_dst_eq_1) ∧ (type_of% @Nat.add_zero ∧ type_of% @not_false_eq_true)) ∧ ((type_of% @q_K_nrm_eq_3 ∧ type_of% @q_vPick_eq_1) ∧ (type_of% @q_O_nrm_eq_1 ∧ (type_of% @q_Bool_not_true ∧ type_of% @q_exK_eq_1)))) ∧ (((type_of% @q_freeB_eq_1 ∧ type_of% @q_freeT_eq_1) ∧ (type_of% @q_freeT_eq_2 ∧ type_of% @q_freeO_eq_1)) ∧ ((type_of% @Bool.and_true ∧ type_of% @Bool.or_true) ∧ (type_of% @q_vExtr_eq_1 ∧ (type_of% @q_List_getElemQ_cons_zero ∧ type_of% @q_List_getElemQ_cons_succ))))) ∧ ((((type_of% @norm_lst ∧ type_of% @q_cutInt_eq_8) ∧ (type_of% @q_Bool_not_false ∧ type_of% @q_V_noRef_eq_2)) ∧ ((type_of% @q_exL_eq_27 ∧ type_of% @q_one_eq_2) ∧ (type_of% @q_V_owns_eq_3 ∧ (type_of% @q_V_ownsL_eq_1 ∧ type_of% @q_V_ownsL_eq_2)))) ∧ (((type_of% @q_V_toNew_eq_4 ∧ type_of% @q_V_toNewL_eq_1) ∧ (type_of% @q_V_toNewL_eq_2 ∧ (type_of% @q_vFaddr_eq_1 ∧ type_of% @q_isVarO_eq_1))) ∧ ((type_of% @q_C_norm_eq_6 ∧ type_of% @q_V_noRef_eq_1) ∧ (type_of% @q_K_noRef_eq_1 ∧ (type_of% @q_V_nrm_eq_2 ∧ type_of% @q_C_normRow_eq_1)))))) ∧ (((((type_of% @q_C_normRow_eq_2 ∧ type_of% @q_C_norm_eq_1) ∧ (type_of% @q_C_normRows_eq_1 ∧ type_of% @q_List_isEmpty_nil)) ∧ ((type_of% @q_guardP_eq_2 ∧ type_of% @q_cutInt_eq_7) ∧ (type_of% @q_freeO_eq_2 ∧ (type_of% @Bool.false_or ∧ type_of% @decide_false)))) ∧ (((type_of% @q_exL_eq_21 ∧ type_of% @q_ofRow_eq_1) ∧ (type_of% @q_K_noRef_eq_3 ∧ (type_of% @q_O_noRef_eq_1 ∧ type_of% @q_List_all_cons))) ∧ ((type_of% @q_List_all_nil ∧ type_of% @decide_true) ∧ (type_of% @q_AE_thenL_eq_3 ∧ (type_of% @q_awl_eq_7 ∧ type_of% @q_resX_eq_2))))) ∧ ((((type_of% @q_resCell_eq_1 ∧ type_of% @q_regN_eq_2) ∧ (type_of% @q_freesL_eq_1 ∧ type_of% @q_addsL_eq_1)) ∧ ((type_of% @q_regK_eq_1 ∧ type_of% @q_retK_eq_2) ∧ (type_of% @q_exL_eq_4 ∧ (type_of% @q_exL_eq_30 ∧ type_of% @q_initT_eq_1)))) ∧ (((type_of% @q_V_reg_eq_4 ∧ type_of% @q_initT_eq_2) ∧ (type_of% @q_guardP_eq_1 ∧ (type_of% @Bool.true_and ∧ type_of% @q_V_reg_eq_3))) ∧ ((type_of% @q_V_regL_eq_1 ∧ type_of% @q_V_regL_eq_2) ∧ (type_of% @r_vLen_lst ∧ (type_of% @q_V_owns_eq_4 ∧ type_of% @q_V_toNew_eq_2)))))))) ∧ (((((((type_of% @q_lookO_eq_1 ∧ type_of% @q_one_eq_1) ∧ (type_of% @q_exL_eq_15 ∧ type_of% @q_vUn_eq_1)) ∧ ((type_of% @q_unV_eq_2 ∧ type_of% @q_mapC_eq_1) ∧ (type_of% @q_vLenS_eq_1 ∧ (type_of% @q_V_noRef_eq_4 ∧ type_of% @q_V_noRefL_eq_1)))) ∧ (((type_of% @q_V_noRefL_eq_2 ∧ type_of% @q_exL_eq_31) ∧ (type_of% @q_putDL_eq_1 ∧ type_of% @q_AOp_dst_eq_28)) ∧ ((type_of% @q_cutInt_eq_10 ∧ type_of% @Bool.and_eq_true) ∧ (type_of% @q_awl_eq_9 ∧ (type_of% @q_AE_thenL_eq_2 ∧ type_of% @q_AE_inBlockL_eq_2))))) ∧ ((((type_of% @q_vBuild_eq_1 ∧ type_of% @q_rowV_eq_1) ∧ (type_of% @q_exL_eq_6 ∧ type_of% @q_binV_eq_2)) ∧ ((type_of% @q_AOp_dst_eq_8 ∧ type_of% @q_wpLQ_eq_1) ∧ (type_of% @q_AE_inBlockL_eq_1 ∧ (type_of% @q_cutInt_eq_1 ∧ type_of% @q_V_nrm_eq_5)))) ∧ (((type_of% @q_AOp_dst_eq_20 ∧ type_of% @Int.toNat_natCast) ∧ (type_of% @q_AOp_dst_eq_27 ∧ (type_of% @Int.natCast_nonneg ∧ type_of% @q_exL_eq_5))) ∧ ((type_of% @q_boxK_eq_1 ∧ type_of% @q_cutInt_eq_6) ∧ (type_of% @q_V_nrm_eq_4 ∧ (type_of% @q_V_nrmL_eq_1 ∧ type_of% @q_V_nrmL_eq_2)))))) ∧ (((((type_of% @q_vLoad_eq_2 ∧ type_of% @q_vPick_eq_2) ∧ (type_of% @Int.cast_ofNat_Int ∧ type_of% @q_exL_eq_23)) ∧ ((type_of% @q_exLQ_eq_1 ∧ type_of% @r_vIaddr_lst) ∧ (type_of% @q_cutInt_eq_11 ∧ (type_of% @q_O_nrm_eq_2 ∧ type_of% @false_implies)))) ∧ (((type_of% @q_partV_eq_2 ∧ type_of% @q_AOp_dst_eq_3) ∧ (type_of% @q_K_noRef_eq_2 ∧ (type_of% @q_O_noRef_eq_2 ∧ type_of% @q_List_getD_cons_zero))) ∧ ((type_of% @q_List_replicate_succ ∧ type_of% @q_List_cons_append) ∧ (type_of% @q_V_cells_eq_1 ∧ (type_of% @q_pureRow_eq_3 ∧ type_of% @or_false))))) ∧ ((((type_of% @q_binStr_eq_3 ∧ type_of% @condB_beq) ∧ (type_of% @q_List_replicate_zero ∧ type_of% @q_vPick_eq_3)) ∧ ((type_of% @q_AOp_dst_eq_32 ∧ type_of% @q_wpLQs_eq_2) ∧ (type_of% @q_AE_inBlockL_eq_3 ∧ (type_of% @q_V_noRef_eq_6 ∧ type_of% @q_List_foldl_cons)))) ∧ (((type_of% @q_List_foldl_nil ∧ type_of% @q_wpLT_eq_4) ∧ (type_of% @q_exLQ_eq_9 ∧ (type_of% @q_vBound_eq_2 ∧ type_of% @q_exLQ_eq_29))) ∧ ((type_of% @q_vLits_eq_1 ∧ type_of% @q_vLits_eq_2) ∧ (type_of% @q_List_set_cons_zero ∧ (type_of% @and_true ∧ type_of% @q_AOp_dst_eq_14))))))) ∧ ((((((type_of% @q_V_cells_eq_3 ∧ type_of% @q_V_fz_eq_1) ∧ (type_of% @q_K_fz_eq_2 ∧ type_of% @q_vRow_eq_1)) ∧ ((type_of% @q_exLQ_eq_12 ∧ type_of% @condB_not) ∧ (type_of% @q_binStr_eq_1 ∧ (type_of% @q_vBound_eq_1 ∧ type_of% @q_Option_map_none)))) ∧ (((type_of% @Int.toNat_zero ∧ type_of% @q_exLQ_eq_22) ∧ (type_of% @q_nlApp_eq_2 ∧ type_of% @q_delO_eq_1)) ∧ ((type_of% @q_delO_eq_2 ∧ type_of% @q_wpLQs_eq_1) ∧ (type_of% @q_awl_eq_3 ∧ (type_of% @q_cutS_eq_1 ∧ type_of% @q_vSlstr_eq_1))))) ∧ ((((type_of% @q_isArrO_eq_1 ∧ type_of% @q_V_nrm_eq_3) ∧ (type_of% @q_V_owns_eq_2 ∧ type_of% @q_K_owns_eq_1)) ∧ ((type_of% @q_V_toNew_eq_3 ∧ type_of% @q_K_toNew_eq_2) ∧ (type_of% @q_List_flatMap_cons ∧ (type_of% @q_List_flatMap_nil ∧ type_of% @q_exLQ_eq_10)))) ∧ (((type_of% @q_cutInt_eq_9 ∧ type_of% @q_exL_eq_7) ∧ (type_of% @q_bsK_eq_1 ∧ (type_of% @q_K_noRef_eq_8 ∧ type_of% @q_appK_eq_1))) ∧ ((type_of% @q_appendK_eq_1 ∧ type_of% @q_V_scrub_eq_1) ∧ (type_of% @q_K_scrub_eq_1 ∧ (type_of% @q_K_scrub_eq_2 ∧ type_of% @q_K_scrub_eq_5)))))) ∧ (((((type_of% @q_O_scrub_eq_1 ∧ type_of% @q_K_nrm_eq_2) ∧ (type_of% @q_cutInt_eq_2 ∧ type_of% @q_O_scrub_eq_2)) ∧ ((type_of% @q_exL_eq_33 ∧ type_of% @q_srcO_eq_1) ∧ (type_of% @q_srcV_eq_2 ∧ (type_of% @q_awl_eq_11 ∧ type_of% @q_keepT_eq_1)))) ∧ (((type_of% @q_keepT_eq_2 ∧ type_of% @q_keepO_eq_1) ∧ (type_of% @q_keepO_eq_2 ∧ (type_of% @q_addO_eq_1 ∧ type_of% @q_addO_eq_2))) ∧ ((type_of% @q_V_noRef_eq_5 ∧ type_of% @q_cutInt_eq_3) ∧ (type_of% @q_partV_eq_1 ∧ (type_of% @q_V_scrub_eq_3 ∧ type_of% @condB_decide))))) ∧ ((((type_of% @q_awl_eq_4 ∧ type_of% @q_exL_eq_20) ∧ (type_of% @q_guardP_eq_3 ∧ type_of% @q_wpLT_eq_1)) ∧ ((type_of% @q_wpLT_eq_3 ∧ type_of% @q_wpLT_eq_5) ∧ (type_of% @q_exLQ_eq_28 ∧ (type_of% @q_V_fz_eq_2 ∧ type_of% @q_V_fz_eq_4)))) ∧ (((type_of% @q_V_fzL_eq_1 ∧ type_of% @q_V_fzL_eq_2) ∧ (type_of% @q_V_scrub_eq_5 ∧ (type_of% @condB_bne ∧ type_of% @q_exLQ_eq_24))) ∧ ((type_of% @q_exLQ_eq_21 ∧ type_of% @q_AOp_dst_eq_19) ∧ (type_of% @q_K_noRef_eq_5 ∧ (type_of% @q_lookT_eq_1 ∧ type_of% @q_V_reg_eq_2))))))))) := ⟨⟨⟨⟨⟨⟨⟨⟨@q_insT_eq_1, @q_wpLs_eq_2⟩, ⟨@q_wpL_eq_1, @q_look_eq_1⟩⟩, ⟨⟨@lookT_here, @q_exL_eq_1⟩, ⟨@q_wpLs_eq_1, ⟨@lookT_next, @true_and⟩⟩⟩⟩, ⟨⟨⟨@q_AE_thenL_eq_1, @q_awl_eq_2⟩, ⟨@q_putK_eq_1, @q_awl_eq_5⟩⟩, ⟨⟨@q_look_eq_2, @q_List_map_nil⟩, ⟨@q_List_map_cons, ⟨@Nat.zero_add, @q_List_length_nil⟩⟩⟩⟩⟩, ⟨⟨⟨⟨@lookO_here, @q_List_length_cons⟩, ⟨@q_List_drop_zero, @q_List_take_zero⟩⟩, ⟨⟨@q_vBin_eq_1, @q_resV_eq_1⟩, ⟨@q_List_take_succ_cons, ⟨@Nat.le_refl, @and_self⟩⟩⟩⟩, ⟨⟨⟨@q_exL_eq_11, @q_Option_map_some⟩, ⟨@q_awl_eq_6, ⟨@q_condK_eq_1, @q_learn_eq_1⟩⟩⟩, ⟨⟨@q_pureRow_eq_1, @q_pureRow_eq_2⟩, ⟨@q_binV_eq_1, ⟨@q_binInt_eq_3, @q_loadO_eq_1⟩⟩⟩⟩⟩⟩, ⟨⟨⟨⟨⟨@q_isV_eq_1, @q_vLoad_eq_1⟩, ⟨@q_insO_eq_1, @q_exL_eq_8⟩⟩, ⟨⟨@q_mapT_eq_1, @q_mapT_eq_2⟩, ⟨@q_mapO_eq_1, ⟨@q_List_drop_succ_cons, @q_ofRow_eq_2⟩⟩⟩⟩, ⟨⟨⟨@q_condB_eq_2, @q_awl_eq_10⟩, ⟨@q_endK_eq_2, ⟨@q_endL_eq_1, @q_endV_eq_1⟩⟩⟩, ⟨⟨@q_resL_eq_1, @q_resL_eq_2⟩, ⟨@q_V_nrm_eq_1, ⟨@q_K_nrm_eq_1, @q_exL_eq_28⟩⟩⟩⟩⟩, ⟨⟨⟨⟨@q_resX_eq_1, @q_V_owns_eq_1⟩, ⟨@q_K_owns_eq_2, @q_V_toNew_eq_1⟩⟩, ⟨⟨@q_K_toNew_eq_1, @q_List_nil_append⟩, ⟨@q_C_norm_eq_4, ⟨@q_C_norm_eq_5, @q_splice_eq_1⟩⟩⟩⟩, ⟨⟨⟨@q_stVarK_eq_1, @q_storeK_eq_1⟩, ⟨@q_awl_eq_1, ⟨@q_condB_eq_1, @q_exL_eq_9⟩⟩⟩, ⟨⟨@Bool.false_eq_true, @q_exL_eq_3⟩, ⟨@lookO_next, ⟨@q_V_cells_eq_2, @q_mapO_eq_2⟩⟩⟩⟩⟩⟩⟩, ⟨⟨⟨⟨⟨⟨@q_AOp_dst_eq_10, @q_AOp_dst_eq_1⟩, ⟨@Nat.add_zero, @not_false_eq_true⟩⟩, ⟨⟨@q_K_nrm_eq_3, @q_vPick_eq_1⟩, ⟨@q_O_nrm_eq_1, ⟨@q_Bool_not_true, @q_exK_eq_1⟩⟩⟩⟩, ⟨⟨⟨@q_freeB_eq_1, @q_freeT_eq_1⟩, ⟨@q_freeT_eq_2, @q_freeO_eq_1⟩⟩, ⟨⟨@Bool.and_true, @Bool.or_true⟩, ⟨@q_vExtr_eq_1, ⟨@q_List_getElemQ_cons_zero, @q_List_getElemQ_cons_succ⟩⟩⟩⟩⟩, ⟨⟨⟨⟨@norm_lst, @q_cutInt_eq_8⟩, ⟨@q_Bool_not_false, @q_V_noRef_eq_2⟩⟩, ⟨⟨@q_exL_eq_27, @q_one_eq_2⟩, ⟨@q_V_owns_eq_3, ⟨@q_V_ownsL_eq_1, @q_V_ownsL_eq_2⟩⟩⟩⟩, ⟨⟨⟨@q_V_toNew_eq_4, @q_V_toNewL_eq_1⟩, ⟨@q_V_toNewL_eq_2, ⟨@q_vFaddr_eq_1, @q_isVarO_eq_1⟩⟩⟩, ⟨⟨@q_C_norm_eq_6, @q_V_noRef_eq_1⟩, ⟨@q_K_noRef_eq_1, ⟨@q_V_nrm_eq_2, @q_C_normRow_eq_1⟩⟩⟩⟩⟩⟩, ⟨⟨⟨⟨⟨@q_C_normRow_eq_2, @q_C_norm_eq_1⟩, ⟨@q_C_normRows_eq_1, @q_List_isEmpty_nil⟩⟩, ⟨⟨@q_guardP_eq_2, @q_cutInt_eq_7⟩, ⟨@q_freeO_eq_2, ⟨@Bool.false_or, @decide_false⟩⟩⟩⟩, ⟨⟨⟨@q_exL_eq_21, @q_ofRow_eq_1⟩, ⟨@q_K_noRef_eq_3, ⟨@q_O_noRef_eq_1, @q_List_all_cons⟩⟩⟩, ⟨⟨@q_List_all_nil, @decide_true⟩, ⟨@q_AE_thenL_eq_3, ⟨@q_awl_eq_7, @q_resX_eq_2⟩⟩⟩⟩⟩, ⟨⟨⟨⟨@q_resCell_eq_1, @q_regN_eq_2⟩, ⟨@q_freesL_eq_1, @q_addsL_eq_1⟩⟩, ⟨⟨@q_regK_eq_1, @q_retK_eq_2⟩, ⟨@q_exL_eq_4, ⟨@q_exL_eq_30, @q_initT_eq_1⟩⟩⟩⟩, ⟨⟨⟨@q_V_reg_eq_4, @q_initT_eq_2⟩, ⟨@q_guardP_eq_1, ⟨@Bool.true_and, @q_V_reg_eq_3⟩⟩⟩, ⟨⟨@q_V_regL_eq_1, @q_V_regL_eq_2⟩, ⟨@r_vLen_lst, ⟨@q_V_owns_eq_4, @q_V_toNew_eq_2⟩⟩⟩⟩⟩⟩⟩⟩, ⟨⟨⟨⟨⟨⟨⟨@q_lookO_eq_1, @q_one_eq_1⟩, ⟨@q_exL_eq_15, @q_vUn_eq_1⟩⟩, ⟨⟨@q_unV_eq_2, @q_mapC_eq_1⟩, ⟨@q_vLenS_eq_1, ⟨@q_V_noRef_eq_4, @q_V_noRefL_eq_1⟩⟩⟩⟩, ⟨⟨⟨@q_V_noRefL_eq_2, @q_exL_eq_31⟩, ⟨@q_putDL_eq_1, @q_AOp_dst_eq_28⟩⟩, ⟨⟨@q_cutInt_eq_10, @Bool.and_eq_true⟩, ⟨@q_awl_eq_9, ⟨@q_AE_thenL_eq_2, @q_AE_inBlockL_eq_2⟩⟩⟩⟩⟩, ⟨⟨⟨⟨@q_vBuild_eq_1, @q_rowV_eq_1⟩, ⟨@q_exL_eq_6, @q_binV_eq_2⟩⟩, ⟨⟨@q_AOp_dst_eq_8, @q_wpLQ_eq_1⟩, ⟨@q_AE_inBlockL_eq_1, ⟨@q_cutInt_eq_1, @q_V_nrm_eq_5⟩⟩⟩⟩, ⟨⟨⟨@q_AOp_dst_eq_20, @Int.toNat_natCast⟩, ⟨@q_AOp_dst_eq_27, ⟨@Int.natCast_nonneg, @q_exL_eq_5⟩⟩⟩, ⟨⟨@q_boxK_eq_1, @q_cutInt_eq_6⟩, ⟨@q_V_nrm_eq_4, ⟨@q_V_nrmL_eq_1, @q_V_nrmL_eq_2⟩⟩⟩⟩⟩⟩, ⟨⟨⟨⟨⟨@q_vLoad_eq_2, @q_vPick_eq_2⟩, ⟨@Int.cast_ofNat_Int, @q_exL_eq_23⟩⟩, ⟨⟨@q_exLQ_eq_1, @r_vIaddr_lst⟩, ⟨@q_cutInt_eq_11, ⟨@q_O_nrm_eq_2, @false_implies⟩⟩⟩⟩, ⟨⟨⟨@q_partV_eq_2, @q_AOp_dst_eq_3⟩, ⟨@q_K_noRef_eq_2, ⟨@q_O_noRef_eq_2, @q_List_getD_cons_zero⟩⟩⟩, ⟨⟨@q_List_replicate_succ, @q_List_cons_append⟩, ⟨@q_V_cells_eq_1, ⟨@q_pureRow_eq_3, @or_false⟩⟩⟩⟩⟩, ⟨⟨⟨⟨@q_binStr_eq_3, @condB_beq⟩, ⟨@q_List_replicate_zero, @q_vPick_eq_3⟩⟩, ⟨⟨@q_AOp_dst_eq_32, @q_wpLQs_eq_2⟩, ⟨@q_AE_inBlockL_eq_3, ⟨@q_V_noRef_eq_6, @q_List_foldl_cons⟩⟩⟩⟩, ⟨⟨⟨@q_List_foldl_nil, @q_wpLT_eq_4⟩, ⟨@q_exLQ_eq_9, ⟨@q_vBound_eq_2, @q_exLQ_eq_29⟩⟩⟩, ⟨⟨@q_vLits_eq_1, @q_vLits_eq_2⟩, ⟨@q_List_set_cons_zero, ⟨@and_true, @q_AOp_dst_eq_14⟩⟩⟩⟩⟩⟩⟩, ⟨⟨⟨⟨⟨⟨@q_V_cells_eq_3, @q_V_fz_eq_1⟩, ⟨@q_K_fz_eq_2, @q_vRow_eq_1⟩⟩, ⟨⟨@q_exLQ_eq_12, @condB_not⟩, ⟨@q_binStr_eq_1, ⟨@q_vBound_eq_1, @q_Option_map_none⟩⟩⟩⟩, ⟨⟨⟨@Int.toNat_zero, @q_exLQ_eq_22⟩, ⟨@q_nlApp_eq_2, @q_delO_eq_1⟩⟩, ⟨⟨@q_delO_eq_2, @q_wpLQs_eq_1⟩, ⟨@q_awl_eq_3, ⟨@q_cutS_eq_1, @q_vSlstr_eq_1⟩⟩⟩⟩⟩, ⟨⟨⟨⟨@q_isArrO_eq_1, @q_V_nrm_eq_3⟩, ⟨@q_V_owns_eq_2, @q_K_owns_eq_1⟩⟩, ⟨⟨@q_V_toNew_eq_3, @q_K_toNew_eq_2⟩, ⟨@q_List_flatMap_cons, ⟨@q_List_flatMap_nil, @q_exLQ_eq_10⟩⟩⟩⟩, ⟨⟨⟨@q_cutInt_eq_9, @q_exL_eq_7⟩, ⟨@q_bsK_eq_1, ⟨@q_K_noRef_eq_8, @q_appK_eq_1⟩⟩⟩, ⟨⟨@q_appendK_eq_1, @q_V_scrub_eq_1⟩, ⟨@q_K_scrub_eq_1, ⟨@q_K_scrub_eq_2, @q_K_scrub_eq_5⟩⟩⟩⟩⟩⟩, ⟨⟨⟨⟨⟨@q_O_scrub_eq_1, @q_K_nrm_eq_2⟩, ⟨@q_cutInt_eq_2, @q_O_scrub_eq_2⟩⟩, ⟨⟨@q_exL_eq_33, @q_srcO_eq_1⟩, ⟨@q_srcV_eq_2, ⟨@q_awl_eq_11, @q_keepT_eq_1⟩⟩⟩⟩, ⟨⟨⟨@q_keepT_eq_2, @q_keepO_eq_1⟩, ⟨@q_keepO_eq_2, ⟨@q_addO_eq_1, @q_addO_eq_2⟩⟩⟩, ⟨⟨@q_V_noRef_eq_5, @q_cutInt_eq_3⟩, ⟨@q_partV_eq_1, ⟨@q_V_scrub_eq_3, @condB_decide⟩⟩⟩⟩⟩, ⟨⟨⟨⟨@q_awl_eq_4, @q_exL_eq_20⟩, ⟨@q_guardP_eq_3, @q_wpLT_eq_1⟩⟩, ⟨⟨@q_wpLT_eq_3, @q_wpLT_eq_5⟩, ⟨@q_exLQ_eq_28, ⟨@q_V_fz_eq_2, @q_V_fz_eq_4⟩⟩⟩⟩, ⟨⟨⟨@q_V_fzL_eq_1, @q_V_fzL_eq_2⟩, ⟨@q_V_scrub_eq_5, ⟨@condB_bne, @q_exLQ_eq_24⟩⟩⟩, ⟨⟨@q_exLQ_eq_21, @q_AOp_dst_eq_19⟩, ⟨@q_K_noRef_eq_5, ⟨@q_lookT_eq_1, @q_V_reg_eq_2⟩⟩⟩⟩⟩⟩⟩⟩⟩
end Go.Abs


namespace Go.Abs
section
variable {P : Program}
theorem shape_str {n : Nat} {t : TypeId} {r : List C} (hu : P.underlying t = some .string) (h : Shape P n t r) : ∃ s : List UInt8, r = [.str s] ∧ s.length ≤ 9223372036854775807 := by
  cases n with
  | zero => exact h.elim
  | succ n => simp only [Shape, hu] at h; exact h
theorem shape_slice {n : Nat} {t e : TypeId} {r : List C} (hu : P.underlying t = some (.slice e)) (h : Shape P n t r) : ∃ m rows, n = m + 1 ∧ r = [lstC (P.cellsOf e) rows] ∧ rows.length ≤ 9223372036854775807 ∧ ∀ x ∈ rows, Shape P m e x := by
  cases n with
  | zero => exact h.elim
  | succ n => simp only [Shape, hu] at h; obtain ⟨rows, h1, h2, h3⟩ := h; exact ⟨n, rows, rfl, h1, h2, h3⟩
theorem rows_of {α : Type} {S : List C → Prop} (enc : α → List C) (hS : ∀ r, S r → ∃ a, r = enc a) : ∀ (rows : List (List C)), (∀ r ∈ rows, S r) → ∃ l : List α, rows = l.map enc
  | [], _ => ⟨[], rfl⟩
  | r :: rows, h => by
    obtain ⟨a, ha⟩ := hS r (h r (by simp))
    obtain ⟨l, hl⟩ := rows_of enc hS rows (fun x hx => h x (by simp [hx]))
    exact ⟨a :: l, by rw [ha, hl]; rfl⟩
variable {tI tB tS tT tLT tR tLR tC tLC tO : TypeId}
end
end Go.Abs


namespace Go.Abs
section
variable {P : Program}
end
end Go.Abs


set_option maxRecDepth 10000
namespace Go.Wire
open Go.Lib
abbrev Txt := List UInt8
theorem dg_toNat {d : Nat} (h : d < 10) : (UInt8.ofNat (48 + d)).toNat = 48 + d := by
  rw [UInt8.toNat_ofNat']; omega
theorem dec_small {u : Nat} (h : u < 10) : decDigits u = [UInt8.ofNat (48 + u)] := by rw [decDigits, dif_pos h]
theorem dec_big {u : Nat} (h : ¬ u < 10) : decDigits u = decDigits (u / 10) ++ [UInt8.ofNat (48 + u % 10)] := by rw [decDigits, dif_neg h]
theorem dec_dig (u : Nat) : ∀ c, c ∈ decDigits u → 48 ≤ c.toNat ∧ c.toNat ≤ 57 := by
  induction u using Nat.strongRecOn with
  | _ u ih =>
    intro c hc
    by_cases h : u < 10
    · rw [dec_small h, List.mem_singleton] at hc
      subst hc
      rw [dg_toNat h]; omega
    · rw [dec_big h, List.mem_append, List.mem_singleton] at hc
      rcases hc with hc | rfl
      · exact ih (u / 10) (by omega) c hc
      · rw [dg_toNat (by omega)]; omega
theorem dec_ne (u : Nat) : decDigits u ≠ [] := by
  by_cases h : u < 10
  · rw [dec_small h]; simp
  · rw [dec_big h]; simp
theorem dec_len : ∀ (k u : Nat), u < 10 ^ (k + 1) → (decDigits u).length ≤ k + 1
  | 0, u, h => by rw [dec_small (by simpa using h)]; simp
  | k + 1, u, h => by
    by_cases h10 : u < 10
    · rw [dec_small h10]; simp
    · rw [dec_big h10, List.length_append]
      have := dec_len k (u / 10) (by rw [Nat.pow_succ] at h; omega)
      simp only [List.length_singleton]; omega
theorem parse_append : ∀ (l1 l2 : Txt) (acc u : Nat), parseUint10 acc l1 = .ok u → parseUint10 acc (l1 ++ l2) = parseUint10 u l2
  | [], l2, acc, u, h => by
    simp only [parseUint10] at h
    injection h with h
    rw [h]; rfl
  | c :: r, l2, acc, u, h => by
    simp only [parseUint10] at h
    simp only [List.cons_append, parseUint10]
    split at h
    · rename_i h1
      rw [if_pos h1]
      split at h
      · cases h
      · rename_i h2
        rw [if_neg h2]
        split at h
        · cases h
        · rename_i h3
          rw [if_neg h3]
          exact parse_append r l2 _ u h
    · cases h
theorem parse_one {acc d : Nat} (hd : d < 10) (h : acc * 10 + d < 18446744073709551616) : parseUint10 acc [UInt8.ofNat (48 + d)] = .ok (acc * 10 + d) := by
  simp only [parseUint10, dg_toNat hd]
  rw [if_pos (by omega), if_neg (by omega), if_neg (by omega)]
  congr 1; omega
theorem parse_dec (u : Nat) (hu : u < 18446744073709551616) : parseUint10 0 (decDigits u) = .ok u := by
  induction u using Nat.strongRecOn with
  | _ u ih =>
    by_cases h : u < 10
    · rw [dec_small h, parse_one h (by omega)]; congr 1; omega
    · rw [dec_big h, parse_append _ _ 0 (u / 10) (ih (u / 10) (by omega) (by omega)), parse_one (by omega) (by omega)]
      congr 1; omega
def inI (n : Int) : Prop := -9223372036854775808 ≤ n ∧ n ≤ 9223372036854775807
theorem mag_dec (u : Nat) (hu : u < 18446744073709551616) : parseMag (decDigits u) = .ok u := by
  rw [parseMag, if_neg (dec_ne u), parse_dec u hu]
theorem atoi_itoa {n : Int} (h : inI n) : atoiAll (itoa n) = .ok n := by
  unfold itoa
  by_cases hn : n < 0
  · rw [if_pos hn]
    have h1 := mag_dec n.natAbs (by have := h.1; omega)
    have e45 : (45 : UInt8).toNat = 45 := rfl
    have h2 := h.1
    simp only [atoiAll, e45, true_or, or_true, if_true, h1]
    rw [if_neg (by simp), if_neg (by omega)]
    congr 1; omega
  · rw [if_neg hn]
    have h1 := mag_dec n.toNat (by have := h.2; omega)
    have hd := dec_dig n.toNat
    have h2 := h.2
    cases hl : decDigits n.toNat with
    | nil => exact absurd hl (dec_ne _)
    | cons c r =>
      rw [hl] at h1 hd
      have hc := hd c (by simp)
      have e1 : ¬ c.toNat = 43 := by omega
      have e2 : ¬ c.toNat = 45 := by omega
      simp only [atoiAll, e1, e2, or_self, if_false, h1, not_false_eq_true, true_and, false_and]
      rw [if_neg (by omega)]
      congr 1; omega
theorem atoi_in {l : Txt} {n : Int} (h : atoiAll l = .ok n) : inI n := by
  unfold atoiAll at h
  split at h
  · cases h
  · simp only [] at h
    split at h
    · cases h
    · cases h
    · rename_i u _
      split at h
      · cases h
      · rename_i a1
        split at h
        · cases h
        · rename_i a2
          injection h with h
          subst h
          unfold inI
          split
          · rename_i a3
            simp only [a3, true_and] at a2
            omega
          · rename_i a3
            simp only [a3, not_false_eq_true, true_and] at a1
            omega
theorem itoa_semi (n : Int) : ∀ c, c ∈ itoa n → c ≠ 59 := by
  intro c hc
  have : c.toNat = 45 ∨ 48 ≤ c.toNat ∧ c.toNat ≤ 57 := by
    unfold itoa at hc
    split at hc
    · rcases List.mem_cons.1 hc with rfl | hc
      · exact .inl rfl
      · exact .inr (dec_dig _ c hc)
    · exact .inr (dec_dig _ c hc)
  intro e
  subst e
  have e59 : (59 : UInt8).toNat = 59 := rfl
  omega
theorem itoa_len {n : Int} (h : inI n) : 1 ≤ (itoa n).length ∧ (itoa n).length ≤ 20 := by
  obtain ⟨h1, h2⟩ := h
  unfold itoa
  split
  · have := dec_len 18 n.natAbs (by omega)
    simp only [List.length_cons]; omega
  · have := dec_len 18 n.toNat (by omega)
    have h3 := List.length_pos_iff.2 (dec_ne n.toNat)
    omega
def wI (n : Int) : Txt := itoa n ++ [59]
def rI (s : Txt) : Option (Int × Txt) :=
  if (59 : UInt8) ∈ s.take 21 then
    match atoiAll ((s.take 21).takeWhile fun c => decide (c ≠ 59)) with
    | .ok n => if itoa n = (s.take 21).takeWhile (fun c => decide (c ≠ 59)) then some (n, s.drop ((itoa n).length + 1)) else none
    | _ => none
  else none
theorem cut_at {t : Txt} (h : (59 : UInt8) ∈ t) : ∃ r, t = t.takeWhile (fun c => decide (c ≠ 59)) ++ 59 :: r := by
  induction t with
  | nil => cases h
  | cons c t ih =>
    by_cases hc : c = 59
    · subst hc; exact ⟨t, by simp⟩
    · obtain ⟨r, hr⟩ := ih ((List.mem_cons.1 h).resolve_left (fun e => hc e.symm))
      refine ⟨r, ?_⟩
      rw [List.takeWhile_cons_of_pos (by simpa using hc), List.cons_append, ← hr]
theorem while_app {l r : Txt} (h : ∀ c, c ∈ l → c ≠ 59) : (l ++ 59 :: r).takeWhile (fun c => decide (c ≠ 59)) = l := by
  induction l with
  | nil => simp
  | cons c l ih =>
    rw [List.cons_append, List.takeWhile_cons_of_pos (by simpa using h c (by simp)), ih (fun x hx => h x (by simp [hx]))]
theorem rI_write {n : Int} (h : inI n) (r : Txt) : rI (wI n ++ r) = some (n, r) := by
  have hl := itoa_len h
  have e : (wI n ++ r).take 21 = itoa n ++ 59 :: (r.take (20 - (itoa n).length)) := by
    rw [wI, List.append_assoc, List.singleton_append, List.take_append, List.take_of_length_le (by omega)]
    congr 1
    obtain ⟨k, hk⟩ : ∃ k, 21 - (itoa n).length = k + 1 := ⟨20 - (itoa n).length, by omega⟩
    rw [hk, List.take_succ_cons]
    congr 2; omega
  have hw : ((wI n ++ r).take 21).takeWhile (fun c => decide (c ≠ 59)) = itoa n := by rw [e]; exact while_app (itoa_semi n)
  unfold rI
  rw [hw, if_pos (by rw [e]; simp), atoi_itoa h]
  simp only [if_true]
  congr 2
  rw [wI, List.append_assoc, List.drop_append]
  simp
theorem rI_some {s r : Txt} {n : Int} (h : rI s = some (n, r)) : inI n ∧ s = wI n ++ r := by
  unfold rI at h
  split at h
  · rename_i hm
    split at h
    · rename_i m hat
      split at h
      · rename_i hit
        cases h
        refine ⟨atoi_in hat, ?_⟩
        obtain ⟨q, hq⟩ := cut_at hm
        rw [← hit] at hq
        have e : s = itoa n ++ 59 :: (q ++ s.drop 21) := by
          rw [← List.cons_append, ← List.append_assoc, ← hq, List.take_append_drop]
        conv => rhs; rw [e]
        rw [wI, List.append_assoc, List.drop_append]
        conv => lhs; rw [e]
        simp
      · cases h
    · cases h
  · cases h
end Go.Wire


set_option maxRecDepth 10000
namespace Go.Wire
open Go.Lib
def Reads {α : Type} (w : α → Txt) (R : Txt → Option (α × Txt)) (ok : α → Prop) : Prop := ∀ s x r, R s = some (x, r) ↔ ok x ∧ s = w x ++ r
section
variable {α : Type} {w : α → Txt} {R : Txt → Option (α × Txt)} {ok : α → Prop}
theorem Reads.back (h : Reads w R ok) {x : α} (hx : ok x) (r : Txt) : R (w x ++ r) = some (x, r) := (h _ _ _).2 ⟨hx, rfl⟩
theorem Reads.uniq (h : Reads w R ok) {x y : α} {r q : Txt} (hx : ok x) (hy : ok y) (e : w x ++ r = w y ++ q) : x = y ∧ r = q := by
  have h1 := h.back hx r
  rw [e, h.back hy q] at h1
  cases h1
  exact ⟨rfl, rfl⟩
theorem Reads.inj (h : Reads w R ok) {x y : α} (hx : ok x) (hy : ok y) (e : w x = w y) : x = y := (h.uniq (r := []) (q := []) hx hy (by rw [e])).1
theorem Reads.cut (h : Reads w R ok) {x : α} (hx : ok x) {k : Nat} (hk : k < (w x).length) : R ((w x).take k) = none := by
  cases hr : R ((w x).take k) with
  | none => rfl
  | some p =>
    obtain ⟨y, r⟩ := p
    obtain ⟨hy, e⟩ := (h _ _ _).1 hr
    have e2 : w x ++ [] = w y ++ (r ++ (w x).drop k) := by
      rw [List.append_nil, ← List.append_assoc, ← e, List.take_append_drop]
    have h2 := (h.uniq hx hy e2).2
    have h3 : ((w x).drop k).length = 0 := by
      have := congrArg List.length h2
      simp only [List.length_nil, List.length_append] at this
      omega
    rw [List.length_drop] at h3
    omega
end
def wS (s : Txt) : Txt := wI s.length ++ s
def rS (s : Txt) : Option (Txt × Txt) := (rI s).bind fun p => if p.1 < 0 ∨ p.1 > p.2.length then none else some (p.2.take p.1.toNat, p.2.drop p.1.toNat)
def okS (s : Txt) : Prop := s.length ≤ 9223372036854775807
theorem reads_S : Reads wS rS okS := by
  intro s x r
  constructor
  · intro h
    unfold rS at h
    cases hr : rI s with
    | none => rw [hr] at h; cases h
    | some p =>
      obtain ⟨n, q⟩ := p
      rw [hr] at h
      simp only [Option.bind_some] at h
      split at h
      · cases h
      · rename_i hc
        cases h
        obtain ⟨⟨h1, h2⟩, e⟩ := rI_some hr
        have hl : (q.take n.toNat).length = n.toNat := by rw [List.length_take]; omega
        have hn : ((q.take n.toNat).length : Int) = n := by rw [hl]; omega
        refine ⟨by unfold okS; omega, ?_⟩
        rw [wS, hn, List.append_assoc, List.take_append_drop]
        exact e
  · rintro ⟨h1, rfl⟩
    unfold okS at h1
    unfold rS
    have e : wS x ++ r = wI x.length ++ (x ++ r) := by rw [wS, List.append_assoc]
    rw [e, rI_write ⟨by omega, by omega⟩]
    simp only [Option.bind_some]
    rw [if_neg (by simp only [List.length_append]; omega)]
    simp
theorem wI_len {n : Int} (h : inI n) : 2 ≤ (wI n).length := by
  have := itoa_len h
  rw [wI, List.length_append, List.length_singleton]; omega
theorem wS_len {s : Txt} (h : okS s) : 2 ≤ (wS s).length := by
  unfold okS at h
  have := wI_len (n := s.length) ⟨by omega, by omega⟩
  rw [wS, List.length_append]; omega
def wN {α : Type} (w : α → Txt) (l : List α) : Txt := (l.map w).flatten
section
variable {α : Type} {w : α → Txt} {R : Txt → Option (α × Txt)} {ok : α → Prop}
end
end Go.Wire


set_option maxRecDepth 10000
namespace Go.Wire
open Go.Lib
def putD : Nat → Nat → Txt → Txt
  | 0, _, out => out
  | k + 1, m, out => if m < 10 then UInt8.ofNat (48 + m) :: out else putD k (m / 10) (UInt8.ofNat (48 + m % 10) :: out)
def dv (c : UInt8) : Nat := c.toNat - 48
def val (a : Nat) (l : Txt) : Nat := l.foldl (fun a c => a * 10 + dv c) a
end Go.Wire


set_option maxRecDepth 100000
namespace Go.Proofs
open Go.Shelf Go.RowKit
def Tryd.laysCut_ren : Go.Shelf.Ren :=
  {
    f := fun x =>
      match x with
      | 145 => 57
      | 220 => 65
      | 219 => 72
      | 217 => 83
      | 225 => 84
      | 224 => 85
      | 267 => 86
      | 266 => 92
      | 314 => 93
      | n => n,
    t := fun x =>
      match x with
      | 9 => 9
      | 4 => 4
      | 59 => 63
      | 3 => 3
      | 5 => 5
      | 46 => 81
      | 146 => 89
      | 51 => 88
      | n => n,
    g := fun x =>
      match x with
      | 1 => 0
      | n => n }
theorem Tryd.laysCut : Lays.n145 Tryd.prog Tryd.laysCut_ren :=
  { mixed := by kernel_rfl, f145 := Eq.trans Tryd.func57 (congrArg some (Eq.refl (Body.n145 Tryd.laysCut_ren))),
    f217 := Eq.trans Tryd.func83 (congrArg some (Eq.refl (Body.n217 Tryd.laysCut_ren))),
    f219 := Eq.trans Tryd.func72 (congrArg some (Eq.refl (Body.n219 Tryd.laysCut_ren))),
    f220 := Eq.trans Tryd.func65 (congrArg some (Eq.refl (Body.n220 Tryd.laysCut_ren))),
    f224 := Eq.trans Tryd.func85 (congrArg some (Eq.refl (Body.n224 Tryd.laysCut_ren))),
    f225 := Eq.trans Tryd.func84 (congrArg some (Eq.refl (Body.n225 Tryd.laysCut_ren))),
    f266 := Eq.trans Tryd.func92 (congrArg some (Eq.refl (Body.n266 Tryd.laysCut_ren))),
    f267 := Eq.trans Tryd.func86 (congrArg some (Eq.refl (Body.n267 Tryd.laysCut_ren))),
    f314 := Eq.trans Tryd.func93 (congrArg some (Eq.refl (Body.n314 Tryd.laysCut_ren))), t3 := Tryd.underlying3,
    a3 := Tryd.isAgg3, z3 := Tryd.sizeOf3, v3 := Tryd.zeroValue3, t4 := Tryd.underlying4, a4 := Tryd.isAgg4,
    z4 := Tryd.sizeOf4, v4 := Tryd.zeroValue4, t5 := Tryd.underlying5, a5 := Tryd.isAgg5, z5 := Tryd.sizeOf5,
    v5 := Tryd.zeroValue5, t9 := Tryd.underlying9, a9 := Tryd.isAgg9, z9 := Tryd.sizeOf9, v9 := Tryd.zeroValue9,
    t46 := Tryd.underlying81, a46 := Tryd.isAgg81, z46 := Tryd.sizeOf81, v46 := Tryd.zeroValue81,
    t51 := Tryd.underlying88, a51 := Tryd.isAgg88, z51 := Tryd.sizeOf88, v51 := Tryd.zeroValue88,
    t59 := Tryd.underlying63, a59 := Tryd.isAgg63, z59 := Tryd.sizeOf63, v59 := Tryd.zeroValue63,
    t146 := Tryd.underlying89, a146 := Tryd.isAgg89, z146 := Tryd.sizeOf89, v146 := Tryd.zeroValue89,
    g1 := by kernel_rfl }
def Tryd.laysItoa_ren : Go.Shelf.Ren :=
  {
    f := fun x =>
      match x with
      | 171 => 44
      | 243 => 54
      | 246 => 62
      | 283 => 68
      | 284 => 69
      | 285 => 70
      | 286 => 71
      | 129 => 79
      | 317 => 78
      | 318 => 80
      | 319 => 81
      | 320 => 82
      | 337 => 90
      | 338 => 91
      | n => n,
    t := fun x =>
      match x with
      | 3 => 3
      | 9 => 9
      | 2 => 2
      | 4 => 4
      | 171 => 99
      | 0 => 0
      | 53 => 91
      | 37 => 68
      | 5 => 5
      | 173 => 102
      | 212 => 112
      | 51 => 88
      | 20 => 20
      | 213 => 113
      | 46 => 81
      | 232 => 129
      | 233 => 130
      | n => n,
    g := fun x =>
      match x with
      | 17 => 1
      | 18 => 4
      | 19 => 5
      | n => n }
theorem Tryd.laysItoa : LaysM.n171 Tryd.prog Tryd.laysItoa_ren :=
  { mixed := by kernel_rfl, f129 := Eq.trans Tryd.func79 (congrArg some (Eq.refl (Body.n129 Tryd.laysItoa_ren))),
    f171 := Eq.trans Tryd.func44 (congrArg some (Eq.refl (Body.n171 Tryd.laysItoa_ren))),
    f243 := Eq.trans Tryd.func54 (congrArg some (Eq.refl (Body.n243 Tryd.laysItoa_ren))),
    f246 := Eq.trans Tryd.func62 (congrArg some (Eq.refl (Body.n246 Tryd.laysItoa_ren))),
    f283 := Eq.trans Tryd.func68 (congrArg some (Eq.refl (Body.n283 Tryd.laysItoa_ren))),
    f284 := Eq.trans Tryd.func69 (congrArg some (Eq.refl (Body.n284 Tryd.laysItoa_ren))),
    f285 := Eq.trans Tryd.func70 (congrArg some (Eq.refl (Body.n285 Tryd.laysItoa_ren))),
    f286 := Eq.trans Tryd.func71 (congrArg some (Eq.refl (Body.n286 Tryd.laysItoa_ren))),
    f317 := Eq.trans Tryd.func78 (congrArg some (Eq.refl (Body.n317 Tryd.laysItoa_ren))),
    f318 := Eq.trans Tryd.func80 (congrArg some (Eq.refl (Body.n318 Tryd.laysItoa_ren))),
    f319 := Eq.trans Tryd.func81 (congrArg some (Eq.refl (Body.n319 Tryd.laysItoa_ren))),
    f320 := Eq.trans Tryd.func82 (congrArg some (Eq.refl (Body.n320 Tryd.laysItoa_ren))),
    f337 := Eq.trans Tryd.func90 (congrArg some (Eq.refl (Body.n337 Tryd.laysItoa_ren))),
    f338 := Eq.trans Tryd.func91 (congrArg some (Eq.refl (Body.n338 Tryd.laysItoa_ren))), t0 := Tryd.underlying0,
    a0 := Tryd.isAgg0, z0 := Tryd.sizeOf0, v0 := Tryd.zeroValue0, t2 := Tryd.underlying2, a2 := Tryd.isAgg2,
    z2 := Tryd.sizeOf2, v2 := Tryd.zeroValue2, t3 := Tryd.underlying3, a3 := Tryd.isAgg3, z3 := Tryd.sizeOf3,
    v3 := Tryd.zeroValue3, t4 := Tryd.underlying4, a4 := Tryd.isAgg4, z4 := Tryd.sizeOf4, v4 := Tryd.zeroValue4,
    t5 := Tryd.underlying5, a5 := Tryd.isAgg5, z5 := Tryd.sizeOf5, v5 := Tryd.zeroValue5, t9 := Tryd.underlying9,
    a9 := Tryd.isAgg9, z9 := Tryd.sizeOf9, v9 := Tryd.zeroValue9, t20 := Tryd.underlying20, a20 := Tryd.isAgg20,
    z20 := Tryd.sizeOf20, v20 := Tryd.zeroValue20, t37 := Tryd.underlying68, a37 := Tryd.isAgg68, z37 := Tryd.sizeOf68,
    v37 := Tryd.zeroValue68, t46 := Tryd.underlying81, a46 := Tryd.isAgg81, z46 := Tryd.sizeOf81, v46 := Tryd.zeroValue81,
    t51 := Tryd.underlying88, a51 := Tryd.isAgg88, z51 := Tryd.sizeOf88, v51 := Tryd.zeroValue88,
    t53 := Tryd.underlying91, a53 := Tryd.isAgg91, z53 := Tryd.sizeOf91, v53 := Tryd.zeroValue91,
    t171 := Tryd.underlying99, a171 := Tryd.isAgg99, z171 := Tryd.sizeOf99, v171 := Tryd.zeroValue99,
    t173 := Tryd.underlying102, a173 := Tryd.isAgg102, z173 := Tryd.sizeOf102, v173 := Tryd.zeroValue102,
    t212 := Tryd.underlying112, a212 := Tryd.isAgg112, z212 := Tryd.sizeOf112, v212 := Tryd.zeroValue112,
    t213 := Tryd.underlying113, a213 := Tryd.isAgg113, z213 := Tryd.sizeOf113, t232 := Tryd.underlying129,
    a232 := Tryd.isAgg129, z232 := Tryd.sizeOf129, v232 := Tryd.zeroValue129, t233 := Tryd.underlying130,
    a233 := Tryd.isAgg130, z233 := Tryd.sizeOf130, v233 := Tryd.zeroValue130,
    g17 := by kernel_rfl, g18 := by kernel_rfl,
    g19 := by kernel_rfl, i0 := by kernel_rfl,
    i2 := by kernel_rfl,
    i3 := by kernel_rfl, i4 := by kernel_rfl,
    i5 := by kernel_rfl,
    i9 := by kernel_rfl, i20 := by kernel_rfl,
    i37 := by kernel_rfl,
    i46 := by kernel_rfl,
    i51 := by kernel_rfl,
    i53 := by kernel_rfl,
    i171 :=
      Eq.refl
        (some
          (some
              (Value.agg
                #[Value.int IntKind.u8 0, Value.int IntKind.u8 0, Value.int IntKind.u8 0, Value.int IntKind.u8 0,
                  Value.int IntKind.u8 0, Value.int IntKind.u8 0, Value.int IntKind.u8 0, Value.int IntKind.u8 0,
                  Value.int IntKind.u8 0, Value.int IntKind.u8 0, Value.int IntKind.u8 0, Value.int IntKind.u8 0,
                  Value.int IntKind.u8 0, Value.int IntKind.u8 0, Value.int IntKind.u8 0, Value.int IntKind.u8 0,
                  Value.int IntKind.u8 0, Value.int IntKind.u8 0, Value.int IntKind.u8 0, Value.int IntKind.u8 0,
                  Value.int IntKind.u8 0, Value.int IntKind.u8 0, Value.int IntKind.u8 0, Value.int IntKind.u8 0]),
            24, 24)),
    i173 := by kernel_rfl,
    i212 :=
      Eq.refl
        (some
          (some
              (Value.agg
                #[Value.int IntKind.u64 0, Value.int IntKind.u64 0, Value.int IntKind.u64 0, Value.int IntKind.u64 0,
                  Value.int IntKind.u64 0, Value.int IntKind.u64 0, Value.int IntKind.u64 0, Value.int IntKind.u64 0,
                  Value.int IntKind.u64 0, Value.int IntKind.u64 0, Value.int IntKind.u64 0, Value.int IntKind.u64 0,
                  Value.int IntKind.u64 0, Value.int IntKind.u64 0, Value.int IntKind.u64 0, Value.int IntKind.u64 0,
                  Value.int IntKind.u64 0, Value.int IntKind.u64 0, Value.int IntKind.u64 0, Value.int IntKind.u64 0]),
            20, 160)),
    i232 :=
      Eq.refl
        (some
          (some
              (Value.agg
                #[Value.int IntKind.u8 0, Value.int IntKind.u8 0, Value.int IntKind.u8 0, Value.int IntKind.u8 0,
                  Value.int IntKind.u8 0, Value.int IntKind.u8 0, Value.int IntKind.u8 0, Value.int IntKind.u8 0,
                  Value.int IntKind.u8 0, Value.int IntKind.u8 0, Value.int IntKind.u8 0, Value.int IntKind.u8 0,
                  Value.int IntKind.u8 0, Value.int IntKind.u8 0, Value.int IntKind.u8 0, Value.int IntKind.u8 0,
                  Value.int IntKind.u8 0, Value.int IntKind.u8 0, Value.int IntKind.u8 0, Value.int IntKind.u8 0,
                  Value.int IntKind.u8 0, Value.int IntKind.u8 0, Value.int IntKind.u8 0, Value.int IntKind.u8 0,
                  Value.int IntKind.u8 0, Value.int IntKind.u8 0, Value.int IntKind.u8 0, Value.int IntKind.u8 0,
                  Value.int IntKind.u8 0, Value.int IntKind.u8 0, Value.int IntKind.u8 0, Value.int IntKind.u8 0]),
            32, 32)),
    i233 :=
      Eq.refl
        (some
          (some
              (Value.agg
                (let y :=
                    let y :=
                      let y :=
                        let y :=
                          [Value.int IntKind.u8 0, Value.int IntKind.u8 0, Value.int IntKind.u8 0,
                            Value.int IntKind.u8 0];
                        Value.int IntKind.u8 0 ::
                          Value.int IntKind.u8 0 :: Value.int IntKind.u8 0 :: Value.int IntKind.u8 0 :: y;
                      let y :=
                        Value.int IntKind.u8 0 ::
                          Value.int IntKind.u8 0 :: Value.int IntKind.u8 0 :: Value.int IntKind.u8 0 :: y;
                      Value.int IntKind.u8 0 ::
                        Value.int IntKind.u8 0 :: Value.int IntKind.u8 0 :: Value.int IntKind.u8 0 :: y;
                    let y :=
                      let y :=
                        Value.int IntKind.u8 0 ::
                          Value.int IntKind.u8 0 :: Value.int IntKind.u8 0 :: Value.int IntKind.u8 0 :: y;
                      Value.int IntKind.u8 0 ::
                        Value.int IntKind.u8 0 :: Value.int IntKind.u8 0 :: Value.int IntKind.u8 0 :: y;
                    let y :=
                      Value.int IntKind.u8 0 ::
                        Value.int IntKind.u8 0 :: Value.int IntKind.u8 0 :: Value.int IntKind.u8 0 :: y;
                    Value.int IntKind.u8 0 ::
                      Value.int IntKind.u8 0 :: Value.int IntKind.u8 0 :: Value.int IntKind.u8 0 :: y;
                  let y :=
                    let y :=
                      let y :=
                        Value.int IntKind.u8 0 ::
                          Value.int IntKind.u8 0 :: Value.int IntKind.u8 0 :: Value.int IntKind.u8 0 :: y;
                      Value.int IntKind.u8 0 ::
                        Value.int IntKind.u8 0 :: Value.int IntKind.u8 0 :: Value.int IntKind.u8 0 :: y;
                    let y :=
                      Value.int IntKind.u8 0 ::
                        Value.int IntKind.u8 0 :: Value.int IntKind.u8 0 :: Value.int IntKind.u8 0 :: y;
                    Value.int IntKind.u8 0 ::
                      Value.int IntKind.u8 0 :: Value.int IntKind.u8 0 :: Value.int IntKind.u8 0 :: y;
                  let y :=
                    let y :=
                      Value.int IntKind.u8 0 ::
                        Value.int IntKind.u8 0 :: Value.int IntKind.u8 0 :: Value.int IntKind.u8 0 :: y;
                    Value.int IntKind.u8 0 ::
                      Value.int IntKind.u8 0 :: Value.int IntKind.u8 0 :: Value.int IntKind.u8 0 :: y;
                  let y :=
                    Value.int IntKind.u8 0 ::
                      Value.int IntKind.u8 0 :: Value.int IntKind.u8 0 :: Value.int IntKind.u8 0 :: y;
                  Value.int IntKind.u8 0 ::
                    Value.int IntKind.u8 0 :: Value.int IntKind.u8 0 :: Value.int IntKind.u8 0 :: y).toArray),
            64, 64)),
    m17 := by kernel_rfl, m18 := by kernel_rfl,
    m19 := by kernel_rfl }
def Tryd.laysAtoi_ren : Go.Shelf.Ren :=
  {
    f := fun x =>
      match x with
      | 172 => 58
      | 244 => 66
      | 245 => 67
      | 247 => 73
      | 279 => 74
      | 280 => 75
      | 281 => 76
      | 282 => 77
      | 287 => 87
      | 316 => 88
      | 171 => 44
      | 205 => 89
      | 321 => 94
      | 322 => 95
      | 243 => 54
      | 246 => 62
      | 283 => 68
      | 284 => 69
      | 285 => 70
      | 286 => 71
      | 129 => 79
      | 317 => 78
      | 318 => 80
      | 319 => 81
      | 320 => 82
      | 337 => 90
      | 338 => 91
      | n => n,
    t := fun x =>
      match x with
      | 9 => 9
      | 3 => 3
      | 75 => 75
      | 76 => 76
      | 4 => 4
      | 5 => 5
      | 167 => 105
      | 37 => 68
      | 0 => 0
      | 85 => 106
      | 2 => 2
      | 168 => 108
      | 53 => 91
      | 175 => 117
      | 46 => 81
      | 210 => 120
      | 127 => 86
      | 145 => 128
      | 143 => 126
      | 21 => 21
      | 171 => 99
      | 173 => 102
      | 212 => 112
      | 51 => 88
      | 20 => 20
      | 213 => 113
      | 232 => 129
      | 233 => 130
      | 80 => 78
      | n => n,
    g := fun x =>
      match x with
      | 15 => 2
      | 16 => 3
      | 17 => 1
      | 18 => 4
      | 19 => 5
      | n => n }
theorem Tryd.laysAtoi : LaysC.n172 Tryd.prog Tryd.laysAtoi_ren :=
  { mixed := by kernel_rfl, f129 := Eq.trans Tryd.func79 (congrArg some (Eq.refl (Body.n129 Tryd.laysAtoi_ren))),
    f171 := Eq.trans Tryd.func44 (congrArg some (Eq.refl (Body.n171 Tryd.laysAtoi_ren))),
    f172 := Eq.trans Tryd.func58 (congrArg some (Eq.refl (Body.n172 Tryd.laysAtoi_ren))),
    f205 := Eq.trans Tryd.func89 (congrArg some (Eq.refl (Body.n205 Tryd.laysAtoi_ren))),
    f243 := Eq.trans Tryd.func54 (congrArg some (Eq.refl (Body.n243 Tryd.laysAtoi_ren))),
    f244 := Eq.trans Tryd.func66 (congrArg some (Eq.refl (Body.n244 Tryd.laysAtoi_ren))),
    f245 := Eq.trans Tryd.func67 (congrArg some (Eq.refl (Body.n245 Tryd.laysAtoi_ren))),
    f246 := Eq.trans Tryd.func62 (congrArg some (Eq.refl (Body.n246 Tryd.laysAtoi_ren))),
    f247 := Eq.trans Tryd.func73 (congrArg some (Eq.refl (Body.n247 Tryd.laysAtoi_ren))),
    f279 := Eq.trans Tryd.func74 (congrArg some (Eq.refl (Body.n279 Tryd.laysAtoi_ren))),
    f280 := Eq.trans Tryd.func75 (congrArg some (Eq.refl (Body.n280 Tryd.laysAtoi_ren))),
    f281 := Eq.trans Tryd.func76 (congrArg some (Eq.refl (Body.n281 Tryd.laysAtoi_ren))),
    f282 := Eq.trans Tryd.func77 (congrArg some (Eq.refl (Body.n282 Tryd.laysAtoi_ren))),
    f283 := Eq.trans Tryd.func68 (congrArg some (Eq.refl (Body.n283 Tryd.laysAtoi_ren))),
    f284 := Eq.trans Tryd.func69 (congrArg some (Eq.refl (Body.n284 Tryd.laysAtoi_ren))),
    f285 := Eq.trans Tryd.func70 (congrArg some (Eq.refl (Body.n285 Tryd.laysAtoi_ren))),
    f286 := Eq.trans Tryd.func71 (congrArg some (Eq.refl (Body.n286 Tryd.laysAtoi_ren))),
    f287 := Eq.trans Tryd.func87 (congrArg some (Eq.refl (Body.n287 Tryd.laysAtoi_ren))),
    f316 := Eq.trans Tryd.func88 (congrArg some (Eq.refl (Body.n316 Tryd.laysAtoi_ren))),
    f317 := Eq.trans Tryd.func78 (congrArg some (Eq.refl (Body.n317 Tryd.laysAtoi_ren))),
    f318 := Eq.trans Tryd.func80 (congrArg some (Eq.refl (Body.n318 Tryd.laysAtoi_ren))),
    f319 := Eq.trans Tryd.func81 (congrArg some (Eq.refl (Body.n319 Tryd.laysAtoi_ren))),
    f320 := Eq.trans Tryd.func82 (congrArg some (Eq.refl (Body.n320 Tryd.laysAtoi_ren))),
    f321 := Eq.trans Tryd.func94 (congrArg some (Eq.refl (Body.n321 Tryd.laysAtoi_ren))),
    f322 := Eq.trans Tryd.func95 (congrArg some (Eq.refl (Body.n322 Tryd.laysAtoi_ren))),
    f337 := Eq.trans Tryd.func90 (congrArg some (Eq.refl (Body.n337 Tryd.laysAtoi_ren))),
    f338 := Eq.trans Tryd.func91 (congrArg some (Eq.refl (Body.n338 Tryd.laysAtoi_ren))), t0 := Tryd.underlying0,
    a0 := Tryd.isAgg0, z0 := Tryd.sizeOf0, v0 := Tryd.zeroValue0, t2 := Tryd.underlying2, a2 := Tryd.isAgg2,
    z2 := Tryd.sizeOf2, v2 := Tryd.zeroValue2, t3 := Tryd.underlying3, a3 := Tryd.isAgg3, z3 := Tryd.sizeOf3,
    v3 := Tryd.zeroValue3, t4 := Tryd.underlying4, a4 := Tryd.isAgg4, z4 := Tryd.sizeOf4, v4 := Tryd.zeroValue4,
    t5 := Tryd.underlying5, a5 := Tryd.isAgg5, z5 := Tryd.sizeOf5, v5 := Tryd.zeroValue5, t9 := Tryd.underlying9,
    a9 := Tryd.isAgg9, z9 := Tryd.sizeOf9, v9 := Tryd.zeroValue9, t20 := Tryd.underlying20, a20 := Tryd.isAgg20,
    z20 := Tryd.sizeOf20, v20 := Tryd.zeroValue20, t21 := Tryd.underlying21, a21 := Tryd.isAgg21, z21 := Tryd.sizeOf21,
    v21 := Tryd.zeroValue21, t37 := Tryd.underlying68, a37 := Tryd.isAgg68, z37 := Tryd.sizeOf68, v37 := Tryd.zeroValue68,
    t46 := Tryd.underlying81, a46 := Tryd.isAgg81, z46 := Tryd.sizeOf81, v46 := Tryd.zeroValue81,
    t51 := Tryd.underlying88, a51 := Tryd.isAgg88, z51 := Tryd.sizeOf88, v51 := Tryd.zeroValue88,
    t53 := Tryd.underlying91, a53 := Tryd.isAgg91, z53 := Tryd.sizeOf91, v53 := Tryd.zeroValue91,
    t75 := Tryd.underlying75, a75 := Tryd.isAgg75, z75 := Tryd.sizeOf75, v75 := Tryd.zeroValue75,
    t76 := Tryd.underlying76, a76 := Tryd.isAgg76, z76 := Tryd.sizeOf76, v76 := Tryd.zeroValue76,
    t85 := Tryd.underlying106, a85 := Tryd.isAgg106, z85 := Tryd.sizeOf106, v85 := Tryd.zeroValue106,
    t127 := Tryd.underlying86, a127 := Tryd.isAgg86, z127 := Tryd.sizeOf86, v127 := Tryd.zeroValue86,
    t143 := Tryd.underlying126, a143 := Tryd.isAgg126, z143 := Tryd.sizeOf126, v143 := Tryd.zeroValue126,
    t145 := Tryd.underlying128, a145 := Tryd.isAgg128, z145 := Tryd.sizeOf128, v145 := Tryd.zeroValue128,
    t167 := Tryd.underlying105, a167 := Tryd.isAgg105, z167 := Tryd.sizeOf105, v167 := Tryd.zeroValue105,
    t168 := Tryd.underlying108, a168 := Tryd.isAgg108, z168 := Tryd.sizeOf108, v168 := Tryd.zeroValue108,
    t171 := Tryd.underlying99, a171 := Tryd.isAgg99, z171 := Tryd.sizeOf99, v171 := Tryd.zeroValue99,
    t173 := Tryd.underlying102, a173 := Tryd.isAgg102, z173 := Tryd.sizeOf102, v173 := Tryd.zeroValue102,
    t175 := Tryd.underlying117, a175 := Tryd.isAgg117, z175 := Tryd.sizeOf117, v175 := Tryd.zeroValue117,
    t210 := Tryd.underlying120, a210 := Tryd.isAgg120, z210 := Tryd.sizeOf120, v210 := Tryd.zeroValue120,
    t212 := Tryd.underlying112, a212 := Tryd.isAgg112, z212 := Tryd.sizeOf112, v212 := Tryd.zeroValue112,
    t213 := Tryd.underlying113, a213 := Tryd.isAgg113, z213 := Tryd.sizeOf113, t232 := Tryd.underlying129,
    a232 := Tryd.isAgg129, z232 := Tryd.sizeOf129, v232 := Tryd.zeroValue129, t233 := Tryd.underlying130,
    a233 := Tryd.isAgg130, z233 := Tryd.sizeOf130, v233 := Tryd.zeroValue130,
    g15 := by kernel_rfl, g16 := by kernel_rfl,
    g17 := by kernel_rfl, g18 := by kernel_rfl,
    g19 := by kernel_rfl, t80 := Tryd.underlying78, a80 := Tryd.isAgg78, z80 := Tryd.sizeOf78,
    v80 := Tryd.zeroValue78, i0 := by kernel_rfl,
    i2 := by kernel_rfl,
    i3 := by kernel_rfl, i4 := by kernel_rfl,
    i5 := by kernel_rfl,
    i9 := by kernel_rfl, i20 := by kernel_rfl,
    i21 := by kernel_rfl,
    i37 := by kernel_rfl,
    i46 := by kernel_rfl,
    i51 := by kernel_rfl,
    i53 := by kernel_rfl, i75 := by kernel_rfl,
    i76 := by kernel_rfl,
    i80 := by kernel_rfl,
    i85 := by kernel_rfl,
    i127 := by kernel_rfl, i143 := by kernel_rfl,
    i145 := by kernel_rfl,
    i167 := by kernel_rfl,
    i168 := by kernel_rfl,
    i171 :=
      Eq.refl
        (some
          (some
              (Value.agg
                #[Value.int IntKind.u8 0, Value.int IntKind.u8 0, Value.int IntKind.u8 0, Value.int IntKind.u8 0,
                  Value.int IntKind.u8 0, Value.int IntKind.u8 0, Value.int IntKind.u8 0, Value.int IntKind.u8 0,
                  Value.int IntKind.u8 0, Value.int IntKind.u8 0, Value.int IntKind.u8 0, Value.int IntKind.u8 0,
                  Value.int IntKind.u8 0, Value.int IntKind.u8 0, Value.int IntKind.u8 0, Value.int IntKind.u8 0,
                  Value.int IntKind.u8 0, Value.int IntKind.u8 0, Value.int IntKind.u8 0, Value.int IntKind.u8 0,
                  Value.int IntKind.u8 0, Value.int IntKind.u8 0, Value.int IntKind.u8 0, Value.int IntKind.u8 0]),
            24, 24)),
    i173 := by kernel_rfl,
    i175 := by kernel_rfl,
    i210 :=
      Eq.refl
        (some (some (Value.agg #[Value.string { data := #[] }, Value.string { data := #[] }, Value.nilIface]), 3, 48)),
    i212 :=
      Eq.refl
        (some
          (some
              (Value.agg
                #[Value.int IntKind.u64 0, Value.int IntKind.u64 0, Value.int IntKind.u64 0, Value.int IntKind.u64 0,
                  Value.int IntKind.u64 0, Value.int IntKind.u64 0, Value.int IntKind.u64 0, Value.int IntKind.u64 0,
                  Value.int IntKind.u64 0, Value.int IntKind.u64 0, Value.int IntKind.u64 0, Value.int IntKind.u64 0,
                  Value.int IntKind.u64 0, Value.int IntKind.u64 0, Value.int IntKind.u64 0, Value.int IntKind.u64 0,
                  Value.int IntKind.u64 0, Value.int IntKind.u64 0, Value.int IntKind.u64 0, Value.int IntKind.u64 0]),
            20, 160)),
    i232 :=
      Eq.refl
        (some
          (some
              (Value.agg
                #[Value.int IntKind.u8 0, Value.int IntKind.u8 0, Value.int IntKind.u8 0, Value.int IntKind.u8 0,
                  Value.int IntKind.u8 0, Value.int IntKind.u8 0, Value.int IntKind.u8 0, Value.int IntKind.u8 0,
                  Value.int IntKind.u8 0, Value.int IntKind.u8 0, Value.int IntKind.u8 0, Value.int IntKind.u8 0,
                  Value.int IntKind.u8 0, Value.int IntKind.u8 0, Value.int IntKind.u8 0, Value.int IntKind.u8 0,
                  Value.int IntKind.u8 0, Value.int IntKind.u8 0, Value.int IntKind.u8 0, Value.int IntKind.u8 0,
                  Value.int IntKind.u8 0, Value.int IntKind.u8 0, Value.int IntKind.u8 0, Value.int IntKind.u8 0,
                  Value.int IntKind.u8 0, Value.int IntKind.u8 0, Value.int IntKind.u8 0, Value.int IntKind.u8 0,
                  Value.int IntKind.u8 0, Value.int IntKind.u8 0, Value.int IntKind.u8 0, Value.int IntKind.u8 0]),
            32, 32)),
    i233 :=
      Eq.refl
        (some
          (some
              (Value.agg
                (let y :=
                    let y :=
                      let y :=
                        let y :=
                          [Value.int IntKind.u8 0, Value.int IntKind.u8 0, Value.int IntKind.u8 0,
                            Value.int IntKind.u8 0];
                        Value.int IntKind.u8 0 ::
                          Value.int IntKind.u8 0 :: Value.int IntKind.u8 0 :: Value.int IntKind.u8 0 :: y;
                      let y :=
                        Value.int IntKind.u8 0 ::
                          Value.int IntKind.u8 0 :: Value.int IntKind.u8 0 :: Value.int IntKind.u8 0 :: y;
                      Value.int IntKind.u8 0 ::
                        Value.int IntKind.u8 0 :: Value.int IntKind.u8 0 :: Value.int IntKind.u8 0 :: y;
                    let y :=
                      let y :=
                        Value.int IntKind.u8 0 ::
                          Value.int IntKind.u8 0 :: Value.int IntKind.u8 0 :: Value.int IntKind.u8 0 :: y;
                      Value.int IntKind.u8 0 ::
                        Value.int IntKind.u8 0 :: Value.int IntKind.u8 0 :: Value.int IntKind.u8 0 :: y;
                    let y :=
                      Value.int IntKind.u8 0 ::
                        Value.int IntKind.u8 0 :: Value.int IntKind.u8 0 :: Value.int IntKind.u8 0 :: y;
                    Value.int IntKind.u8 0 ::
                      Value.int IntKind.u8 0 :: Value.int IntKind.u8 0 :: Value.int IntKind.u8 0 :: y;
                  let y :=
                    let y :=
                      let y :=
                        Value.int IntKind.u8 0 ::
                          Value.int IntKind.u8 0 :: Value.int IntKind.u8 0 :: Value.int IntKind.u8 0 :: y;
                      Value.int IntKind.u8 0 ::
                        Value.int IntKind.u8 0 :: Value.int IntKind.u8 0 :: Value.int IntKind.u8 0 :: y;
                    let y :=
                      Value.int IntKind.u8 0 ::
                        Value.int IntKind.u8 0 :: Value.int IntKind.u8 0 :: Value.int IntKind.u8 0 :: y;
                    Value.int IntKind.u8 0 ::
                      Value.int IntKind.u8 0 :: Value.int IntKind.u8 0 :: Value.int IntKind.u8 0 :: y;
                  let y :=
                    let y :=
                      Value.int IntKind.u8 0 ::
                        Value.int IntKind.u8 0 :: Value.int IntKind.u8 0 :: Value.int IntKind.u8 0 :: y;
                    Value.int IntKind.u8 0 ::
                      Value.int IntKind.u8 0 :: Value.int IntKind.u8 0 :: Value.int IntKind.u8 0 :: y;
                  let y :=
                    Value.int IntKind.u8 0 ::
                      Value.int IntKind.u8 0 :: Value.int IntKind.u8 0 :: Value.int IntKind.u8 0 :: y;
                  Value.int IntKind.u8 0 ::
                    Value.int IntKind.u8 0 :: Value.int IntKind.u8 0 :: Value.int IntKind.u8 0 :: y).toArray),
            64, 64)),
    m15 := by kernel_rfl, m16 := by kernel_rfl,
    m17 := by kernel_rfl, m18 := by kernel_rfl,
    m19 := by kernel_rfl, c0 := by kernel_rfl, c2 := by kernel_rfl,
    c3 := by kernel_rfl, c4 := by kernel_rfl, c5 := by kernel_rfl, c9 := by kernel_rfl,
    c20 := by kernel_rfl, c21 := by kernel_rfl, c37 := by kernel_rfl, c46 := by kernel_rfl,
    c51 := by kernel_rfl, c53 := by kernel_rfl, c75 := by kernel_rfl, c76 := by kernel_rfl,
    c80 := by kernel_rfl, c85 := by kernel_rfl, c127 := by kernel_rfl, c143 := by kernel_rfl,
    c145 := by kernel_rfl, c167 := by kernel_rfl, c168 := by kernel_rfl, c171 := by kernel_rfl,
    c173 := by kernel_rfl, c175 := by kernel_rfl, c210 := by kernel_rfl, c212 := by kernel_rfl,
    c213 := by kernel_rfl, c232 := by kernel_rfl, c233 := by kernel_rfl }
def Tryd.laysString_ren : Go.Shelf.Ren :=
  {
    f := fun x =>
      match x with
      | 169 => 49
      | n => n,
    t := fun x =>
      match x with
      | 70 => 70
      | 9 => 9
      | 0 => 0
      | 72 => 72
      | 37 => 68
      | 127 => 86
      | 3 => 3
      | 5 => 5
      | n => n,
    g := fun x =>
      have n := x;
      n }
theorem Tryd.laysString : Lays.n169 Tryd.prog Tryd.laysString_ren :=
  { mixed := by kernel_rfl, f169 := Eq.trans Tryd.func49 (congrArg some (Eq.refl (Body.n169 Tryd.laysString_ren))),
    t0 := Tryd.underlying0, a0 := Tryd.isAgg0, z0 := Tryd.sizeOf0, v0 := Tryd.zeroValue0, t3 := Tryd.underlying3,
    a3 := Tryd.isAgg3, z3 := Tryd.sizeOf3, v3 := Tryd.zeroValue3, t9 := Tryd.underlying9, a9 := Tryd.isAgg9,
    z9 := Tryd.sizeOf9, v9 := Tryd.zeroValue9, t37 := Tryd.underlying68, a37 := Tryd.isAgg68, z37 := Tryd.sizeOf68,
    v37 := Tryd.zeroValue68, t70 := Tryd.underlying70, a70 := Tryd.isAgg70, z70 := Tryd.sizeOf70, v70 := Tryd.zeroValue70,
    t72 := Tryd.underlying72, a72 := Tryd.isAgg72, z72 := Tryd.sizeOf72, v72 := Tryd.zeroValue72,
    t127 := Tryd.underlying86, a127 := Tryd.isAgg86, z127 := Tryd.sizeOf86, v127 := Tryd.zeroValue86 }
def Tryd.laysGrow_ren : Go.Shelf.Ren :=
  {
    f := fun x =>
      match x with
      | 241 => 56
      | 277 => 64
      | n => n,
    t := fun x =>
      match x with
      | 70 => 70
      | 3 => 3
      | 0 => 0
      | 72 => 72
      | 37 => 68
      | 5 => 5
      | n => n,
    g := fun x =>
      have n := x;
      n }
theorem Tryd.laysGrow : Lays.n241 Tryd.prog Tryd.laysGrow_ren :=
  { mixed := by kernel_rfl, f241 := Eq.trans Tryd.func56 (congrArg some (Eq.refl (Body.n241 Tryd.laysGrow_ren))),
    f277 := Eq.trans Tryd.func64 (congrArg some (Eq.refl (Body.n277 Tryd.laysGrow_ren))), t0 := Tryd.underlying0,
    a0 := Tryd.isAgg0, z0 := Tryd.sizeOf0, v0 := Tryd.zeroValue0, t3 := Tryd.underlying3, a3 := Tryd.isAgg3,
    z3 := Tryd.sizeOf3, v3 := Tryd.zeroValue3, t37 := Tryd.underlying68, a37 := Tryd.isAgg68, z37 := Tryd.sizeOf68,
    v37 := Tryd.zeroValue68, t70 := Tryd.underlying70, a70 := Tryd.isAgg70, z70 := Tryd.sizeOf70, v70 := Tryd.zeroValue70,
    t72 := Tryd.underlying72, a72 := Tryd.isAgg72, z72 := Tryd.sizeOf72, v72 := Tryd.zeroValue72 }
def Tryd.laysLen_ren : Go.Shelf.Ren :=
  {
    f := fun x =>
      match x with
      | 170 => 53
      | n => n,
    t := fun x =>
      match x with
      | 70 => 70
      | 3 => 3
      | 0 => 0
      | 72 => 72
      | 37 => 68
      | 5 => 5
      | n => n,
    g := fun x =>
      have n := x;
      n }
theorem Tryd.laysLen : Lays.n170 Tryd.prog Tryd.laysLen_ren :=
  { mixed := by kernel_rfl, f170 := Eq.trans Tryd.func53 (congrArg some (Eq.refl (Body.n170 Tryd.laysLen_ren))),
    t0 := Tryd.underlying0, a0 := Tryd.isAgg0, z0 := Tryd.sizeOf0, v0 := Tryd.zeroValue0, t3 := Tryd.underlying3,
    a3 := Tryd.isAgg3, z3 := Tryd.sizeOf3, v3 := Tryd.zeroValue3, t37 := Tryd.underlying68, a37 := Tryd.isAgg68,
    z37 := Tryd.sizeOf68, v37 := Tryd.zeroValue68, t70 := Tryd.underlying70, a70 := Tryd.isAgg70, z70 := Tryd.sizeOf70,
    v70 := Tryd.zeroValue70, t72 := Tryd.underlying72, a72 := Tryd.isAgg72, z72 := Tryd.sizeOf72,
    v72 := Tryd.zeroValue72 }
end Go.Proofs


set_option maxRecDepth 100000
namespace Go.Proofs
open Go.Shelf Go.RowKit
theorem ri_cut (s sep : ByteArray) (m : Int) (w : World) (hs : s.size < 4294967281) (hm : w.cell? ⟨0, 0, none⟩ = some (.int .i64 m)) :
    Calls Tryd.prog 57 #[.string s, .string sep] w fun e w' => e = .returned (.tuple #[.string ⟨(Lib.cut s.data.toList sep.data.toList).1.toArray⟩, .string ⟨(Lib.cut s.data.toList sep.data.toList).2.1.toArray⟩, .bool (Lib.cut s.data.toList sep.data.toList).2.2]) ∧ ∃ n, w' = w.drewN n := Any.strings_Cut Tryd.laysCut s sep m w hs hm
theorem ri_ok (s : ByteArray) (hmax : s.size ≤ 9223372036854775806) (v : Int) (h : Lib.atoiAll s.data.toList = .ok v) (w : World) :
    Calls Tryd.prog 58 #[.string s] w fun e w' => e = .returned (.tuple #[.int .i64 v, .nilIface]) ∧ (w' = w ∨ ∃ t, w' = Lib.bytesWorld w 5 t) := Any.strconv_Atoi_ok Tryd.laysAtoi s hmax v h w
theorem ri_itoa (n : Int) (h0 : -9223372036854775808 ≤ n) (h1 : n ≤ 9223372036854775807) (w : World) (htab : Lib.TabIs Tryd.prog w "internal/strconv.uint64pow10" .u64 Lib.pow10Tab) :
    Calls Tryd.prog 44 #[.int .i64 n] w fun e w' => e = .returned (.string ⟨(Lib.itoa n).toArray⟩) ∧ ∃ k os, w' = Sort.grow (w.drewN k) os := Any.strconv_Itoa Tryd.laysItoa n h0 h1 w htab
theorem ri_none (s : ByteArray) (m : Int) (w : World) (hm : w.cell? ⟨0, 0, none⟩ = some (.int .i64 m)) (x y : List UInt8) (hc : Lib.cut (s.data.toList.take (min (s.size : Int) 21).toNat) [59] = (x, y, false)) :
    Calls Tryd.prog 50 #[.string s] w fun e w' => e = .returned (.tuple #[.int .i64 0, .string ⟨#[]⟩, .bool false]) ∧ ∃ n, w' = w.drewN n := by
  go_enter Tryd.func50, Tryd.ntmps50
  go_wp2_with (go_at_call 57; refine (ri_cut _ _ m _ ?_ hm).mono ?_)
  · simp only [ByteArray.size_extract]; omega
  rintro e w' rfl n rfl
  go_wp2
  go_ret3
  exact ⟨rfl, _, rfl⟩
theorem ri_yes (s : ByteArray) (m : Int) (w : World) (hm : w.cell? ⟨0, 0, none⟩ = some (.int .i64 m)) (x y : List UInt8) (hc : Lib.cut (s.data.toList.take (min (s.size : Int) 21).toNat) [59] = (x, y, true)) (hx : x.length ≤ 20) (hxs : x.length + 1 ≤ s.size) (v : Int) (hv : Lib.atoiAll x = .ok v)
    (h0 : -9223372036854775808 ≤ v) (h1 : v ≤ 9223372036854775807) (htab : ∀ w', Below w.heap.size w w' → Lib.TabIs Tryd.prog w' "internal/strconv.uint64pow10" .u64 Lib.pow10Tab) :
    Calls Tryd.prog 50 #[.string s] w fun e w' => e = .returned (if Lib.itoa v = x then .tuple #[.int .i64 v, .string ⟨(s.data.toList.drop (x.length + 1)).toArray⟩, .bool true] else .tuple #[.int .i64 0, .string ⟨#[]⟩, .bool false]) ∧ Below w.heap.size w w' := by
  go_enter Tryd.func50, Tryd.ntmps50
  go_wp2_with (go_at_call 57; refine (ri_cut _ _ m _ ?_ hm).mono ?_)
  · simp only [ByteArray.size_extract]; omega
  rintro e w' rfl n rfl
  go_wp2_with (go_at_call 58; refine (ri_ok _ ?_ v hv _).mono ?_)
  · show x.toArray.size ≤ _
    simp; omega
  rintro e w' ⟨rfl, hw⟩
  have hwb : Below w.heap.size w w' := by
    rcases hw with rfl | ⟨t, rfl⟩
    · exact ⟨rfl, rfl, rfl, Nat.le_refl _, fun _ _ => rfl⟩
    · have h9 := Lib.bytesWorld_below (w.drewN n) 5 t
      exact Below.trans (show Below w.heap.size w (w.drewN n) from ⟨rfl, rfl, rfl, Nat.le_refl _, fun _ _ => rfl⟩) h9
  go_wp2_with (go_at_call 44; refine (ri_itoa v h0 h1 _ ?_).mono ?_)
  · exact htab _ hwb
  rintro e w'' ⟨rfl, k, os, rfl⟩
  have hb2 : Below w.heap.size w (Sort.grow (w'.drewN k) os) := hwb.trans ⟨rfl, rfl, rfl, by show w'.heap.size ≤ (w'.heap ++ os).size; rw [Array.size_append]; omega, fun b hb => by
    show (w'.heap ++ os)[b]? = _
    exact Array.getElem?_append_left (Nat.lt_of_lt_of_le hb hwb.size)⟩
  generalize Sort.grow (w'.drewN k) os = w2 at hb2
  have hsz : (⟨x.toArray⟩ : ByteArray).size = x.length := by show x.toArray.size = _; simp
  have hwr : IntKind.i64.wrap ((x.length : Int) + 1) = (x.length : Int) + 1 := by unfold IntKind.wrap; simp [IntKind.signed, IntKind.bits]; omega
  have hsl : (x.length : Int) + 1 ≤ s.size := by omega
  by_cases hi : Lib.itoa v = x
  · subst hi
    go_wp2
    go_quiet (fail)
    go_wp2
    go_ret3
    refine ⟨?_, hb2.trans ⟨rfl, rfl, rfl, Nat.le_refl _, fun _ _ => rfl⟩⟩
    have hex : s.extract ((Lib.itoa v).length + 1) s.size = ⟨(s.data.toList.drop ((Lib.itoa v).length + 1)).toArray⟩ := by
      have hl : s.size = s.data.toList.length := by rw [Array.length_toList]; rfl
      apply ByteArray.ext
      apply Array.ext'
      rw [ByteArray.data_extract, hl, Array.toList_extract, List.extract_eq_take_drop]
      exact List.take_of_length_le (by rw [List.length_drop]; omega)
    first
      | (rw [← hex]; rfl)
      | (rw [if_pos rfl, ← hex]; rfl)
  · have hne : ¬ (⟨(Lib.itoa v).toArray⟩ : ByteArray) = ⟨x.toArray⟩ := fun e => hi (by simpa using congrArg (fun b : ByteArray => b.data.toList) e)
    go_wp2
    · go_ret3
      exact ⟨rfl, hb2⟩
    · exfalso
      simp_all
theorem ri_fail (s : ByteArray) (hlim : s.size ≤ 281474976710656) (h : ∀ v, Lib.atoiAll s.data.toList ≠ .ok v) (w : World)
    (ev1 ev2 : Value) (h1 : w.cell? ⟨Tryd.laysAtoi_ren.g 15, 0, none⟩ = some ev1) (he1 : ev1 = .nilIface ∨ ∃ te pe, ev1 = .iface te pe) (h2 : w.cell? ⟨Tryd.laysAtoi_ren.g 16, 0, none⟩ = some ev2) (he2 : ev2 = .nilIface ∨ ∃ te pe, ev2 = .iface te pe) :
    Calls Tryd.prog 58 #[.string s] w fun e w' => ∃ n N, e = .returned (.tuple #[.int .i64 n, .iface (Tryd.laysAtoi_ren.t 168) (.pointer (some ⟨N, 0, none⟩))]) ∧ Below w.heap.size w w' := by
  cases hx : Lib.atoiAll s.data.toList with
  | ok v => exact absurd hx (h v)
  | range =>
    refine (Any.strconv_Atoi_range Tryd.laysAtoi s hlim hx ev2 w h2 he2).mono ?_
    rintro e w' ⟨N, rfl, -, -, hb⟩
    exact ⟨_, N, rfl, hb⟩
  | _ =>
    refine (Any.strconv_Atoi_syntax Tryd.laysAtoi s hlim hx ev1 w h1 he1).mono ?_
    rintro e w' ⟨N, rfl, -, -, hb⟩
    exact ⟨_, N, rfl, hb⟩
theorem ri_bad (s : ByteArray) (m : Int) (w : World) (hm : w.cell? ⟨0, 0, none⟩ = some (.int .i64 m)) (x y : List UInt8) (hc : Lib.cut (s.data.toList.take (min (s.size : Int) 21).toNat) [59] = (x, y, true)) (hx : x.length ≤ 20)
    (h : ∀ v, Lib.atoiAll x ≠ .ok v)
    (ev1 ev2 : Value) (h1 : w.cell? ⟨Tryd.laysAtoi_ren.g 15, 0, none⟩ = some ev1) (he1 : ev1 = .nilIface ∨ ∃ te pe, ev1 = .iface te pe) (h2 : w.cell? ⟨Tryd.laysAtoi_ren.g 16, 0, none⟩ = some ev2) (he2 : ev2 = .nilIface ∨ ∃ te pe, ev2 = .iface te pe) :
    Calls Tryd.prog 50 #[.string s] w fun e w' => e = .returned (.tuple #[.int .i64 0, .string ⟨#[]⟩, .bool false]) ∧ Below w.heap.size w w' := by
  go_enter Tryd.func50, Tryd.ntmps50
  go_wp2_with (go_at_call 57; refine (ri_cut _ _ m _ ?_ hm).mono ?_)
  · simp only [ByteArray.size_extract]; omega
  rintro e w' rfl n rfl
  have hf := ri_fail ⟨x.toArray⟩ (by show x.toArray.size ≤ _; simp; omega) (show ∀ v, Lib.atoiAll (⟨x.toArray⟩ : ByteArray).data.toList ≠ .ok v from h) (w.drewN n) ev1 ev2 h1 he1 h2 he2
  go_wp2_with (go_at_call 58; refine hf.mono ?_)
  rintro e w' ⟨nn, N, rfl, hb⟩
  go_wp2
  go_ret3
  exact ⟨rfl, Below.trans (show Below w.heap.size w (w.drewN n) from ⟨rfl, rfl, rfl, Nat.le_refl _, fun _ _ => rfl⟩) hb⟩
end Go.Proofs


set_option maxRecDepth 10000
namespace Go.Wire
open Go.Lib
theorem index_semi : ∀ t : Txt, index t [59] = if (59 : UInt8) ∈ t then ((t.takeWhile fun c => decide (c ≠ 59)).length : Int) else -1
  | [] => rfl
  | b :: l => by
    have ih := index_semi l
    rw [index]
    by_cases hb : b = 59
    · subst hb
      have e : ([59] : List UInt8).isPrefixOf (59 :: l) = true := by simp [List.isPrefixOf]
      rw [e]
      simp
    · have e : ([59] : List UInt8).isPrefixOf (b :: l) = false := by
        simp only [List.isPrefixOf, Bool.and_true, beq_eq_false_iff_ne]
        exact fun h => hb h.symm
      rw [e, ih]
      have hm : (59 : UInt8) ∈ b :: l ↔ 59 ∈ l := ⟨fun h => (List.mem_cons.1 h).resolve_left (fun h => hb h.symm), List.mem_cons_of_mem _⟩
      by_cases h : (59 : UInt8) ∈ l
      · rw [if_pos h, if_pos (hm.2 h), List.takeWhile_cons_of_pos (by simpa using hb)]
        have : ¬ (((l.takeWhile fun c => decide (c ≠ 59)).length : Int) == -1) = true := by
          simp only [beq_iff_eq]; omega
        simp only [Bool.false_eq_true, if_false, this, List.length_cons]
        push_cast; rfl
      · rw [if_neg h, if_neg (fun h2 => h (hm.1 h2))]
        rfl
theorem cut_semi (t : Txt) : (cut t [59]).2.2 = decide ((59 : UInt8) ∈ t) ∧ ((59 : UInt8) ∈ t → (cut t [59]).1 = t.takeWhile fun c => decide (c ≠ 59)) := by
  unfold cut
  rw [index_semi]
  by_cases h : (59 : UInt8) ∈ t
  · rw [if_pos h, if_pos (by omega)]
    refine ⟨by simp [h], fun _ => ?_⟩
    obtain ⟨r, hr⟩ := cut_at h
    generalize (t.takeWhile fun c => decide (c ≠ 59)) = x at hr ⊢
    show t.take (x.length : Int).toNat = x
    rw [hr, Int.toNat_natCast]
    simp
  · rw [if_neg h, if_neg (by omega)]
    exact ⟨by simp [h], fun h2 => absurd h2 h⟩
end Go.Wire


set_option maxRecDepth 100000
namespace Go.Proofs
open Go.Shelf Go.RowKit Go.Wire
def riV (t : Txt) : Value := match rI t with
  | some (n, r) => .tuple #[.int .i64 n, .string ⟨r.toArray⟩, .bool true]
  | none => .tuple #[.int .i64 0, .string ⟨#[]⟩, .bool false]
theorem readInt (s : ByteArray) (m : Int) (w : World) (hm : w.cell? ⟨0, 0, none⟩ = some (.int .i64 m)) (htab : ∀ w', Below w.heap.size w w' → Lib.TabIs Tryd.prog w' "internal/strconv.uint64pow10" .u64 Lib.pow10Tab)
    (ev1 ev2 : Value) (h1 : w.cell? ⟨Tryd.laysAtoi_ren.g 15, 0, none⟩ = some ev1) (he1 : ev1 = .nilIface ∨ ∃ te pe, ev1 = .iface te pe) (h2 : w.cell? ⟨Tryd.laysAtoi_ren.g 16, 0, none⟩ = some ev2) (he2 : ev2 = .nilIface ∨ ∃ te pe, ev2 = .iface te pe) :
    Calls Tryd.prog 50 #[.string s] w fun e w' => e = .returned (riV s.data.toList) ∧ Below w.heap.size w w' := by
  have hl : s.size = s.data.toList.length := by rw [Array.length_toList]; rfl
  have ht : s.data.toList.take (min (s.size : Int) 21).toNat = s.data.toList.take 21 := by
    by_cases h : s.size ≤ 21
    · rw [show (min (s.size : Int) 21).toNat = s.size by omega, hl, List.take_length, List.take_of_length_le (by omega)]
    · rw [show (min (s.size : Int) 21).toNat = 21 by omega]
  obtain ⟨c1, c2⟩ := cut_semi (s.data.toList.take 21)
  by_cases h59 : (59 : UInt8) ∈ s.data.toList.take 21
  · obtain ⟨r, hr⟩ := cut_at h59
    have hx := c2 h59
    have hri : rI s.data.toList = match Lib.atoiAll ((s.data.toList.take 21).takeWhile fun c => decide (c ≠ 59)) with
      | .ok n => if Lib.itoa n = (s.data.toList.take 21).takeWhile (fun c => decide (c ≠ 59)) then some (n, s.data.toList.drop ((Lib.itoa n).length + 1)) else none
      | _ => none := by
      first
        | (rw [rI, if_pos h59]; done)
        | (rw [rI, if_pos h59]; cases Lib.atoiAll ((s.data.toList.take 21).takeWhile fun c => decide (c ≠ 59)) <;> rfl)
    generalize ((s.data.toList.take 21).takeWhile fun c => decide (c ≠ 59)) = x at hr hx hri
    have hlen := congrArg List.length hr
    rw [List.length_take, List.length_append, List.length_cons] at hlen
    have hc : Lib.cut (s.data.toList.take (min (s.size : Int) 21).toNat) [59] = (x, (Lib.cut (s.data.toList.take 21) [59]).2.1, true) := by
      rw [ht]
      refine Prod.ext hx (Prod.ext rfl ?_)
      show _ = true
      rw [c1]; simpa using h59
    cases ha : Lib.atoiAll x with
    | ok v =>
      obtain ⟨b0, b1⟩ := atoi_in ha
      refine (ri_yes s m w hm x _ hc (by omega) (by omega) v ha b0 b1 htab).mono ?_
      rintro e w' ⟨rfl, hb⟩
      refine ⟨?_, hb⟩
      rw [riV, hri, ha]
      by_cases hi : Lib.itoa v = x
      · simp only [hi, if_true]
      · simp only [hi, if_false]
    | _ =>
      refine (ri_bad s m w hm x _ hc (by omega) (by intro v; rw [ha]; intro e; cases e) ev1 ev2 h1 he1 h2 he2).mono ?_
      rintro e w' ⟨rfl, hb⟩
      exact ⟨by rw [riV, hri, ha], hb⟩
  · have hc : Lib.cut (s.data.toList.take (min (s.size : Int) 21).toNat) [59] = ((Lib.cut (s.data.toList.take 21) [59]).1, (Lib.cut (s.data.toList.take 21) [59]).2.1, false) := by
      rw [ht]
      refine Prod.ext rfl (Prod.ext rfl ?_)
      show _ = false
      rw [c1]; simpa using h59
    refine (ri_none s m w hm _ _ hc).mono ?_
    rintro e w' ⟨rfl, n, rfl⟩
    exact ⟨by rw [riV, rI, if_neg h59], ⟨rfl, rfl, rfl, Nat.le_refl _, fun _ _ => rfl⟩⟩
end Go.Proofs


set_option maxRecDepth 100000
set_option maxHeartbeats 2000000
namespace Go.Proofs
open Go.Shelf Go.RowKit Go.Lib
theorem Tryd.bx169 : Builder.Extra Tryd.prog Tryd.laysString_ren where
  sizeBuilder := by kernel_rfl
  liesBuilder := by kernel_rfl
  t5 := Tryd.underlying5
  a5 := Tryd.isAgg5
  z5 := Tryd.sizeOf5
  v5 := Tryd.zeroValue5
  infoByte := by kernel_rfl
  cellsByte := by kernel_rfl
  sizeByte := by kernel_rfl
  neB5 := by decide
theorem cc_used (b : Nat) (w : World) (h0 : w.cell? ⟨b, 0, none⟩ = some (.pointer (some ⟨b, 0, none⟩))) :
    Calls Tryd.prog 55 #[.pointer (some ⟨b, 0, none⟩)] w fun e w' => e = .returned (.tuple #[]) ∧ w' = w := by
  obtain ⟨j, hj, _⟩ := Option.map_eq_some_iff.1 Tryd.bx169.sizeBuilder
  go_enter Tryd.func55, Tryd.ntmps55
  go_wp2
  rw [Lib.run_neq_ptr_same w _ Tryd.underlying70 hj]
  go_wp2
  go_end0
  exact ⟨rfl, rfl⟩
theorem cc_fresh (b : Nat) (w : World) (h0 : w.cell? ⟨b, 0, none⟩ = some (.pointer none)) (hsh : w.shape? b = some (72, 2)) (hfz : w.frozen? ⟨b, 0, none⟩ = false) :
    Calls Tryd.prog 55 #[.pointer (some ⟨b, 0, none⟩)] w fun e w' => e = .returned (.tuple #[]) ∧ w' = w.setCell ⟨b, 0, none⟩ (.pointer (some ⟨b, 0, none⟩)) := by
  obtain ⟨j, hj, hjs⟩ := Option.map_eq_some_iff.1 Tryd.bx169.sizeBuilder
  go_enter Tryd.func55, Tryd.ntmps55
  go_wp2
  rw [Lib.run_to_unsafe w ⟨b, 0, none⟩ Tryd.underlying70 Tryd.underlying95 hj (by rw [hjs]; decide) hsh (Nat.zero_lt_succ 1)]
  simp only [Result.andThen]
  rw [Oper.upon_value]
  go_wp2
  rw [run_callFunc_extern Tryd.func63 (by kernel_rfl) (by kernel_rfl) (by kernel_rfl) (e := Extern.AbiNoEscape.same) (by kernel_rfl)]
  rw [Lib.run_noEscape]
  simp only [Result.andThen]
  rw [Oper.upon_value]
  go_wp2
  rw [Lib.run_from_unsafe w ⟨b, 0, none⟩ Tryd.underlying95 Tryd.underlying70 hj hsh Tryd.bx169.liesBuilder]
  simp only [Result.andThen]
  rw [Oper.upon_value]
  go_wp2
  go_end0
  exact ⟨rfl, rfl⟩
theorem cc_any (B b : Nat) (bs : List Value) (w : World) (h : Lib.IsBuilderF 72 5 B b bs w) :
    Calls Tryd.prog 55 #[.pointer (some ⟨b, 0, none⟩)] w fun e w' => e = .returned (.tuple #[]) ∧ Lib.BuilderAtF 72 5 B b (.pointer (some ⟨b, 0, none⟩)) bs w' ∧ Below B w w' := by
  rcases h with h | h
  · refine (cc_fresh b w h.cell0 h.shape h.frozen0).mono ?_
    rintro e w' ⟨rfl, rfl⟩
    exact ⟨rfl, h.used _, (Below.refl B w).setCell (p := ⟨b, 0, none⟩) h.1 _⟩
  · refine (cc_used b w h.cell0).mono ?_
    rintro e w' ⟨rfl, rfl⟩
    exact ⟨rfl, h, Below.refl B _⟩
theorem b_write (B b : Nat) (bs : List Value) (s : ByteArray) (w : World) (h : Lib.IsBuilderF 72 5 B b bs w) (hlen : bs.length + s.size ≤ 140737488355328) (hBw : B ≤ w.heap.size) :
    Calls Tryd.prog 48 #[.pointer (some ⟨b, 0, none⟩), .string s] w fun e w' => e = .returned (.tuple #[.int .i64 s.size, .nilIface]) ∧ Lib.IsBuilderF 72 5 B b (bs ++ Lib.strCells s) w' ∧ Below B w w' := by
  obtain ⟨i0, hi, hz0, hz1, hz2⟩ := info_parts Tryd.bx169.infoByte
  go_enter Tryd.func48, Tryd.ntmps48
  go_wp2_with (go_at_call 55; refine (cc_any B b bs _ h).mono ?_)
  rintro e w1 ⟨rfl, h1, hb1⟩
  obtain ⟨hB, v, hbk, hown, hne⟩ := h1
  have c0 : w1.cell? ⟨b, 0, none⟩ = some (.pointer (some ⟨b, 0, none⟩)) := by rw [Lib.cell_of_heap hbk]; rfl
  have c1 : w1.cell? ⟨b, 1, none⟩ = some v := by rw [Lib.cell_of_heap hbk]; rfl
  go_wp2_with (at_builtin; refine Lib.wpList_append_own_stringF _ rfl _ _ 68 9 rfl B 5 i0 Tryd.underlying68 Tryd.underlying9 hi hz0 hz1 hz2 _ _ _ rfl hown s rfl ?c3 ?c4 ?c5 ?_)
  case c3 => unfold maxLen; omega
  case c4 => omega
  case c5 => have := hb1.size; omega
  intro v' w2 hown' hgrow _
  have hlt : b < w1.heap.size := by
    rcases Nat.lt_or_ge b w1.heap.size with h' | h'
    · exact h'
    · simp [Array.getElem?_eq_none h'] at hbk
  have hb2 : w2.heap[b]? = some (.cells #[.pointer (some ⟨b, 0, none⟩), v] 72 (0, 0)) := by
    rw [hgrow.block b hlt (fun e => hne e.symm)]
    exact hbk
  have d0 : w2.cell? ⟨b, 0, none⟩ = some (.pointer (some ⟨b, 0, none⟩)) := by rw [Lib.cell_of_heap hb2]; rfl
  have d1 : w2.cell? ⟨b, 1, none⟩ = some v := by rw [Lib.cell_of_heap hb2]; rfl
  have f1 : w2.frozen? ⟨b, 1, none⟩ = false := Lib.frozen_of_heap hb2 1
  obtain ⟨ao, n', cap, rfl⟩ : ∃ ao n' cap, v' = .slice ao n' cap := by
    rcases hown'.2 with ⟨hv, _⟩ | ⟨g, cap, cur, fz, hv, _⟩
    · exact ⟨_, _, _, hv⟩
    · exact ⟨_, _, _, hv⟩
  go_wp2
  go_ret2
  refine ⟨rfl, .inr ?_, ?_⟩
  · exact Lib.BuilderAtF.put (T := 72) (e := 5) hB hb2 (bs' := bs ++ Lib.strCells s) (by simpa [Lib.strCells_length] using hown') (by decide)
  · exact (hb1.grown hgrow (by have := hb1.size; omega) (fun k hk => (hown.lt k hk).1)).setCell (p := ⟨b, 1, none⟩) hB _
end Go.Proofs


set_option maxRecDepth 100000
set_option maxHeartbeats 4000000
namespace Go.Abs
open Go.Proofs Go.Wire Go.RowKit
def encS (s : Txt) : List C := [.str s]
@[simp] theorem normRow_encS (s : Txt) : C.normRow (encS s) = encS s := rfl
def strs (l : List Txt) : List (List C) := l.map encS
@[simp] theorem normRows_strs (l : List Txt) : C.normRows (strs l) = strs l := normRows_eq (fun _ => rfl) l
@[simp] theorem strs_len (l : List Txt) : (strs l).length = l.length := by simp [strs]
theorem strs_at {l : List Txt} {i : Nat} (h : i < l.length) : (strs l).getD i [] = [.str l[i]] := by simp [strs, encS, h]
@[simp] theorem strs_isEmpty (l : List Txt) : (strs l).isEmpty = l.isEmpty := by cases l <;> rfl
theorem strs_snoc (l : List Txt) (s : Txt) : strs l ++ [[.str s]] = strs (l ++ [s]) := by simp [strs, encS]
theorem take_succ_eq {α : Type} {a b : List α} {i : Nat} (ha : i < a.length) (hb : i < b.length) (h : a.take i = b.take i) (e : a[i] = b[i]) : a.take (i + 1) = b.take (i + 1) := by
  rw [List.take_add_one, List.take_add_one, h, List.getElem?_eq_getElem ha, List.getElem?_eq_getElem hb, e]
theorem w26 (a b : List Txt) : Spec Tryd.prog 21 [lst 1 (strs a), lst 1 (strs b)] (fun r => r = .bool (decide (a = b))) := by
  refine Spec.of_len hf21 fun hlen => ?_
  have hl := len_lst (sz := 1) (rows := strs a) List.mem_cons_self hlen
  rw [strs_len] at hl
  clear hlen
  refine Spec.of_awlS hf21 okf21 (by simp) fun S hS => ?_
  by_cases hab : a.length = b.length
  · have c0 : ((a.length : Int) != b.length) = false := by simp [hab]
    simp only [strs_len, c0, Qs, if_true, Nat.reduceAdd, Nat.reduceBEq, uu f21.eq_1, uu f21b16.eq_1, id @f21r17.eq_1, uu f21b18.eq_1, uu f21b19.eq_1, uu f21b22.eq_1, id @f21r23.eq_1, uu f21b24.eq_1, uu f21b25.eq_1, id @f21r26.eq_1, uu f21b27.eq_1]
    rw [uf21l15]
    refine awl_loop (fun i : Nat => [(0, lst 1 (strs a)), (1, lst 1 (strs b)), (5, .int .i64 i)]) (fun _ => [])
      (fun i => i ≤ a.length ∧ a.take i = b.take i) (fun i => a.length - i) 0 rfl rfl ⟨Nat.zero_le _, rfl⟩ ?_
    rintro i ⟨hi, hj⟩
    by_cases hlt : i < a.length
    · have c1 : (i : Int) < a.length := by omega
      have c2 : (i : Int) < b.length := by omega
      have hltb : i < b.length := by omega
      have c4 : IntKind.i64.wrap ((i : Int) + 1) = (i : Int) + 1 := wrap_in (by omega) (by omega)
      simp only [strs_len, c1, c2, c4, strs_at hlt, strs_at hltb, Qs, if_true, List.nodup_nil, Nat.reduceBEq, id @f21r3.eq_1, id @f21r4.eq_1, uu f21b5.eq_1, uu f21b6.eq_1, id @f21r7.eq_1, uu f21b8.eq_1, uu f21b9.eq_1, uu f21b10.eq_1, uu f21b11.eq_1, id @f21r12.eq_1, uu f21b13.eq_1, uu f21b14.eq_1]
      refine ⟨fun h => Next.intro (i + 1) rfl rfl ⟨by omega, take_succ_eq hlt hltb hj h⟩ (by omega), fun h => fin hS ?_⟩
      have : a ≠ b := fun e => h (by subst e; rfl)
      simp [this]
    · have c1 : ¬ (i : Int) < a.length := by omega
      simp only [strs_len, c1, Qs, if_true, List.nodup_nil, Nat.reduceBEq, id @f21r1.eq_1, uu f21b2.eq_1, uu f21b11.eq_1, id @f21r12.eq_1, uu f21b13.eq_1, uu f21b14.eq_1]
      rw [List.take_of_length_le (by omega), List.take_of_length_le (by omega)] at hj
      exact fin hS (by simp [hj])
  · have c0 : ((a.length : Int) != b.length) = true := by simp; omega
    simp only [strs_len, c0, Qs, if_true, List.nodup_nil, Nat.reduceAdd, Nat.reduceBEq, uu f21.eq_1, id @f21r20.eq_1, uu f21b21.eq_1, uu f21b22.eq_1, id @f21r23.eq_1, uu f21b24.eq_1, uu f21b25.eq_1, id @f21r26.eq_1, uu f21b27.eq_1]
    have : a ≠ b := fun e => hab (by rw [e])
    exact fin hS (by simp [this])
def resI (r : Option (Int × Txt)) : V := match r with
  | some (n, r) => .tup [.int .i64 n, .str r, .bool true]
  | none => .tup [.int .i64 0, .str [], .bool false]
theorem Spec.of_awlP {P : Program} {f : FuncId} {n : Nat} {c : AQ} {rs : List RX} {args : List V} {X : V} (hc : cFunc P f = some ⟨n, c.erase, rs⟩) (hok : c.ok = true) (hlen : args.length ≤ n)
    (h : ∀ S : V → Prop, (∀ r, r.fz.nrm = X → S r) → awl P c (endK rs S) (initT 0 args) []) : Spec P f args (fun r => r = X) :=
  (Spec.of_awl hc hok hlen (h (fun r => r.fz.nrm = X) fun _ h => h)).plain.mono (by rintro r' ⟨r, h, rfl⟩; exact h)
theorem resI_scalar (r : Option (Int × Txt)) : (resI r).scalar = true := by unfold resI; split <;> rfl
def resS (r : Option (Txt × Txt)) : V := match r with
  | some (n, r) => .tup [.str n, .str r, .bool true]
  | none => .tup [.str [], .str [], .bool false]
theorem resS_scalar (r : Option (Txt × Txt)) : (resS r).scalar = true := by unfold resS; split <;> rfl
theorem rI_len {s r : Txt} {n : Int} (h : rI s = some (n, r)) : r.length ≤ s.length := by
  have h1 := (rI_some h).2
  rw [h1, List.length_append]; omega
theorem wI_le {n : Int} (h : inI n) : (wI n).length ≤ 21 := by
  have := itoa_len h
  rw [wI, List.length_append, List.length_singleton]; omega
theorem wS_le {s : Txt} (h : s.length ≤ 1000000000000) : (wS s).length ≤ 21 + s.length := by
  have := wI_le (n := s.length) ⟨by omega, by omega⟩
  rw [wS, List.length_append]; omega
theorem callable_at {P : Program} {f : FuncId} (h : (match P.funcs[f]? with | some fn => fn.body.isSome && !(fn.name == "runtime.NumGoroutine") | none => false) = true) : Callable P f := by
  unfold Callable
  cases hf : P.funcs[f]? with
  | none => rw [hf] at h; simp at h
  | some fn => rw [hf] at h; simp only [Bool.and_eq_true, Bool.not_eq_true'] at h; exact ⟨fn, rfl, h.1, h.2⟩
theorem kept_of_below {w w' : World} (h : Below w.heap.size w w') : Kept w w' := ⟨h.os, h.tape, h.output, h.size, h.block⟩
theorem below_of_kept {w w' : World} (h : Kept w w') : Below w.heap.size w w' := ⟨h.os, h.tape, h.output, h.size, h.block⟩
theorem tab_of {w : World} (hG : GlobB (base w)) : Go.Lib.TabIs Tryd.prog w "internal/strconv.uint64pow10" .u64 Go.Lib.pow10Tab := by
  obtain ⟨_, b, hb, hp⟩ := hG.2 1 _ rfl
  have hn : Tryd.prog.globalNamed "internal/strconv.uint64pow10" = some 1 := by kernel_rfl
  unfold Go.Lib.TabIs World.var?
  rw [hn, Option.bind_some]
  have hb' : w.heap[1]? = some b := hb
  rw [hb']
  cases b with
  | cells cs t f =>
    have e : cs = _ := hp
    simp only [e]
    rfl
  | _ => exact hp.elim
theorem cell_of {w : World} {g : Nat} {p : Value → Prop} (hG : GlobB (base w)) (h : globObj g = some (cell0 p)) : ∃ v, w.cell? ⟨g, 0, none⟩ = some v ∧ p v := by
  obtain ⟨_, b, hb, hp⟩ := hG.2 g _ h
  have hb' : w.heap[g]? = some b := hb
  cases b with
  | cells cs t f =>
    obtain ⟨v, h1, h2⟩ := hp
    exact ⟨v, by simp only [World.cell?, hb']; exact h1, h2⟩
  | _ => exact hp.elim
theorem w27 (n : Int) (h : inI n) : Spec Tryd.prog 44 [.int .i64 n] (fun r => r = .str (Go.Lib.itoa n)) :=
  itoa_spec Tryd.laysItoa (callable_at (by kernel_rfl)) (fun w hG => tab_of hG) n h.1 h.2
theorem riV_rep (s : Txt) (w : World) (Z : Bk → Prop) : VRep w Z (fun _ => none) (fun _ => none) (resI (rI s)) (riV s) := by
  unfold riV resI
  cases rI s with
  | none => exact ⟨_, rfl, rfl, ⟨rfl, .int _ _⟩, ⟨rfl, .str _⟩, ⟨rfl, .bool _⟩, trivial⟩
  | some p => exact ⟨_, rfl, rfl, ⟨rfl, .int _ _⟩, ⟨rfl, .str _⟩, ⟨rfl, .bool _⟩, trivial⟩
theorem resI_plain (r : Option (Int × Txt)) : (∀ n, (resI r).reg n = (resI r, [])) ∧ ∀ τ, (resI r).noRef τ = true := by
  unfold resI
  split <;> exact ⟨fun _ => rfl, fun _ => rfl⟩
theorem w17 (s : Txt) : Spec Tryd.prog 50 [.str s] (fun r => r = resI (rI s)) := by
  refine ⟨callable_at (by kernel_rfl), fun w Z vs hG hz ha => ?_⟩
  obtain ⟨l⟩ := vs
  match l, ha with
  | [], ha => exact absurd ha.1 (by simp)
  | _ :: _ :: _, ha => exact absurd ha.1 (by simp)
  | [v1], ha =>
    have e1 := prep_str (ha.2 0 _ v1 rfl rfl).2.2
    subst e1
    obtain ⟨_, h0, m, rfl⟩ := cell_of hG (g := 0) rfl
    obtain ⟨ev1, h1, he1⟩ := cell_of hG (g := 2) rfl
    obtain ⟨ev2, h2, he2⟩ := cell_of hG (g := 3) rfl
    refine (readInt ⟨s.toArray⟩ m w h0 (fun w' hb => tab_of (hG.later (kept_of_below hb))) ev1 ev2 h1 he1 h2 he2).mono ?_
    rintro e w' ⟨rfl, hb⟩
    have he : (⟨s.toArray⟩ : ByteArray).data.toList = s := rfl
    rw [he]
    exact ⟨_, _, rfl, rfl, (resI_plain _).2, rrep_pure hG (kept_of_below hb) (resI_plain _).1 (fun Z => riV_rep s _ Z)⟩
theorem w9 (n : Int) (h : inI n) : Spec Tryd.prog 31 [.int .i64 n] (fun r => r = .str (wI n)) := by
  refine Spec.of_awlS hf31 okf31 (by simp) fun S hS => ?_
  simp only [Qs, Nat.reduceBEq, uu f31.eq_1, id @f31r1.eq_1, uu f31b2.eq_1, id @f31r3.eq_1, uu f31b4.eq_1]
  refine call_s (w27 n h) ?_
  simp only [Qs, List.nodup_nil, Nat.reduceLeDiff]
  exact ⟨by have := itoa_len h; omega, hS⟩
theorem w11 (s : Txt) (hs : s.length ≤ 1000000000000) : Spec Tryd.prog 12 [.str s] (fun r => r = .str (wS s)) := by
  have h0 : inI (s.length : Int) := ⟨by omega, by omega⟩
  have h1 := wI_le h0
  refine Spec.of_awlS hf12 okf12 (by simp) fun S hS => ?_
  simp only [Qs, Nat.reduceBEq, uu f12.eq_1, id @f12r1.eq_1, uu f12b2.eq_1, id @f12r3.eq_1, uu f12b4.eq_1]
  refine call_s (w9 s.length h0) ?_
  have c : (wI s.length).length + s.length ≤ 9223372036854775807 := by omega
  simp only [c, Qs, List.nodup_nil, Nat.reduceBEq]
  exact hS
theorem arg2 {w : World} {Z : Bk → Prop} {a b : V} {vs : Array Value} (ha : ARep w Z [a, b] vs.toList) : ∃ v1 v2, vs = #[v1, v2] ∧ VRep w Z (fun _ => none) (fun _ => none) a v1 ∧ VRep w Z (fun _ => none) (fun _ => none) b v2 := by
  obtain ⟨l⟩ := vs
  match l, ha with
  | [], ha => exact absurd ha.1 (by simp)
  | [_], ha => exact absurd ha.1 (by simp)
  | _ :: _ :: _ :: _, ha => exact absurd ha.1 (by simp)
  | [v1, v2], ha => exact ⟨v1, v2, rfl, (ha.2 0 _ v1 rfl rfl).2, (ha.2 1 _ v2 rfl rfl).2⟩
theorem w19 (s : Txt) (hs : s.length ≤ 1000000000000) : Spec Tryd.prog 42 [.str s] (fun r => r = resS (rS s)) := by
  refine Spec.of_awlS hf42 okf42 (by simp) fun S hS => ?_
  unfold rS at hS
  simp only [Qs, Nat.reduceBEq, uu f42.eq_1, id @f42r9.eq_1, uu f42b10.eq_1, id @f42r11.eq_1, uu f42b12.eq_1]
  refine call_s (w17 s) ?_ (hr := resI_scalar _)
  cases h : rI s with
  | none =>
    rw [h] at hS
    simp only [resI, Qs, List.append_nil, List.nodup_nil, Nat.reduceBEq, id @f42r3.eq_1, uu f42b4.eq_1, uu f42b5.eq_1, id @f42r6.eq_1, uu f42b7.eq_1, uu f42b8.eq_1]
    exact hS
  | some p =>
    obtain ⟨n, r⟩ := p
    have hr := rI_len h
    rw [h] at hS
    simp only [Option.bind_some] at hS
    by_cases hn : n < 0
    · rw [if_pos (.inl hn)] at hS
      simp only [resI, hn, Qs, if_true, if_false, List.append_nil, List.nodup_nil, Nat.reduceBEq, id @f42r3.eq_1, uu f42b4.eq_1, uu f42b5.eq_1, id @f42r6.eq_1, uu f42b7.eq_1, uu f42b8.eq_1]
      exact hS
    · by_cases hl : n > r.length
      · rw [if_pos (.inr hl)] at hS
        simp only [resI, hn, hl, Qs, if_true, if_false, List.append_nil, List.nodup_nil, Nat.reduceBEq, id @f42r3.eq_1, uu f42b4.eq_1, uu f42b5.eq_1, id @f42r6.eq_1, uu f42b7.eq_1, uu f42b8.eq_1]
        exact hS
      · rw [if_neg (fun h => h.elim hn hl)] at hS
        have b1 : (0 : Int) ≤ n := by omega
        have b2 : n ≤ r.length := by omega
        simp only [resI, hn, hl, b1, b2, Qs, if_true, if_false, List.append_nil, List.nodup_nil, Nat.reduceBEq, Int.reduceLE, id @f42r1.eq_1, uu f42b2.eq_1, uu f42b5.eq_1, id @f42r6.eq_1, uu f42b7.eq_1, uu f42b8.eq_1]
        rw [List.take_length]
        exact ⟨Int.le_refl _, hS⟩
end Go.Abs


set_option maxRecDepth 100000
set_option maxHeartbeats 4000000
namespace Go.Proofs
open Go.Shelf Go.RowKit Go.Lib
theorem Tryd.bxg : Builder.Extra Tryd.prog Tryd.laysGrow_ren where
  sizeBuilder := by kernel_rfl
  liesBuilder := by kernel_rfl
  t5 := Tryd.underlying5
  a5 := Tryd.isAgg5
  z5 := Tryd.sizeOf5
  v5 := Tryd.zeroValue5
  infoByte := by kernel_rfl
  cellsByte := by kernel_rfl
  sizeByte := by kernel_rfl
  neB5 := by decide
theorem b_len (B b : Nat) (bs : List Value) (w : World) (h : Lib.IsBuilderF 72 5 B b bs w) :
    Calls Tryd.prog 53 #[.pointer (some ⟨b, 0, none⟩)] w fun e w' => e = .returned (.int .i64 bs.length) ∧ w' = w := Any.Builder_Len_f Tryd.laysLen B b bs w h
theorem b_stringF (B b : Nat) (l : List UInt8) (w : World) (h : Lib.IsBuilderF 72 5 B b (Lib.byteCells l) w) (hBw : B ≤ w.heap.size) :
    Calls Tryd.prog 49 #[.pointer (some ⟨b, 0, none⟩)] w fun e w' => e = .returned (.string ⟨l.toArray⟩) ∧ Lib.IsBuilderF 72 5 B b (Lib.byteCells l) w' ∧ Below B w w' :=
  (Any.Builder_String_any_k Tryd.laysString Tryd.bx169 B b l w h hBw).mono fun _ _ h => ⟨h.1, h.2.1, h.2.2.1⟩
theorem b_growf (B b n : Nat) (w : World) (hB : B ≤ b) (hbk : w.heap[b]? = some (.cells #[.pointer (some ⟨b, 0, none⟩), .slice none 0 0] 72 (0, 0))) (hBw : B ≤ w.heap.size) (hn : n ≤ 281474976710656) :
    Calls Tryd.prog 56 #[.pointer (some ⟨b, 0, none⟩), .int .i64 n] w fun e w' => e = .returned (.tuple #[]) ∧ (Lib.BuilderAt 72 5 B b (.pointer (some ⟨b, 0, none⟩)) [] w' ∧ Below B w w') := Any.Builder_grow_fresh Tryd.laysGrow Tryd.bxg B b n w hB hbk hBw hn
theorem b_grow (B b n : Nat) (w : World) (hB : B ≤ b) (hbk : w.heap[b]? = some (.cells #[.pointer none, .slice none 0 0] 72 (0, 0))) (hBw : B ≤ w.heap.size) (hn : n ≤ 281474976710656) :
    Calls Tryd.prog 47 #[.pointer (some ⟨b, 0, none⟩), .int .i64 n] w fun e w' => e = .returned (.tuple #[]) ∧ (Lib.IsBuilderF 72 5 B b [] w' ∧ Below B w w') := by
  have hbk1 : (w.setCell ⟨b, 0, none⟩ (.pointer (some ⟨b, 0, none⟩))).heap[b]? = some (.cells #[.pointer (some ⟨b, 0, none⟩), .slice none 0 0] 72 (0, 0)) := by
    simp [World.setCell, Array.getElem?_modify, hbk]
  have c1 : (w.setCell ⟨b, 0, none⟩ (.pointer (some ⟨b, 0, none⟩))).cell? ⟨b, 1, none⟩ = some (.slice none 0 0) := by rw [Lib.cell_of_heap hbk1]; rfl
  have hb1 : Below B w (w.setCell ⟨b, 0, none⟩ (.pointer (some ⟨b, 0, none⟩))) := (Below.refl B w).setCell (p := ⟨b, 0, none⟩) hB _
  go_enter Tryd.func47, Tryd.ntmps47
  have hU : Lib.BuilderAt 72 5 B b (.pointer (some ⟨b, 0, none⟩)) [] (w.setCell ⟨b, 0, none⟩ (.pointer (some ⟨b, 0, none⟩))) := ⟨hB, .slice none 0 0, hbk1, World.ownsRow_nil _ _ _ _, by simp [Value.ownBlock]⟩
  have c1' : (w.setCell ⟨b, 0, none⟩ (.pointer (some ⟨b, 0, none⟩))).drew.cell? ⟨b, 1, none⟩ = some (.slice none 0 0) := c1
  go_wp2_with (go_at_call 55; refine (cc_fresh b w (by rw [Lib.cell_of_heap hbk]; rfl) (by simp [World.shape?, hbk]) (Lib.frozen_of_heap hbk 0)).mono ?_; rintro e w' ⟨rfl, rfl⟩)
  go_region
  all_goals go_wp2_with (go_at_call 56; refine (b_growf B b n (w.setCell ⟨b, 0, none⟩ (.pointer (some ⟨b, 0, none⟩))).drew hB hbk1 (by simpa [World.setCell, World.drew, -World.drew_eq] using hBw) hn).mono ?_; rintro e w' ⟨rfl, h1, h2⟩)
  all_goals first
    | (go_end0; exact ⟨rfl, .of (.inr h1), hb1.drew.trans h2⟩)
    | (go_end0; exact ⟨rfl, .of (.inr hU.drew), hb1.drew⟩)
end Go.Proofs


set_option maxRecDepth 100000
set_option maxHeartbeats 8000000
namespace Go.Abs
open Go.Proofs Go.Wire Go.RowKit
theorem w60 (n : Nat) (h : n ≤ 16) : Spec Tryd.prog 60 [.int .u64 1, .int .u64 n] (fun r => r = .tup [.int .u64 0, .int .u64 n]) := by
  have hc : n = 0 ∨ n = 1 ∨ n = 2 ∨ n = 3 ∨ n = 4 ∨ n = 5 ∨ n = 6 ∨ n = 7 ∨ n = 8 ∨ n = 9 ∨ n = 10 ∨ n = 11 ∨ n = 12 ∨ n = 13 ∨ n = 14 ∨ n = 15 ∨ n = 16 := by omega
  refine Spec.of_awlS hf60 okf60 (by simp) fun S hS => ?_
  simp only [Qs, q_binInt_eq_2, q_cutInt_eq_12, if_true, List.append_nil, List.nodup_nil, Nat.reduceAdd, Nat.reduceBEq, Int.reduceLE, Int.reduceToNat, uu f60.eq_1, id @f60r1.eq_1, uu f60b2.eq_1, id @f60r3.eq_1, uu f60b4.eq_1, id @f60r5.eq_1, uu f60b6.eq_1, id @f60r7.eq_1, uu f60b8.eq_1, id @f60r9.eq_1, uu f60b10.eq_1, id @f60r11.eq_1, uu f60b12.eq_1, id @f60r13.eq_1, uu f60b14.eq_1, id @f60r15.eq_1, uu f60b16.eq_1, id @f60r17.eq_1, uu f60b18.eq_1, id @f60r19.eq_1, uu f60b20.eq_1, id @f60r21.eq_1, uu f60b22.eq_1, id @f60r23.eq_1, uu f60b24.eq_1]
  rcases hc with rfl | rfl | rfl | rfl | rfl | rfl | rfl | rfl | rfl | rfl | rfl | rfl | rfl | rfl | rfl | rfl | rfl <;> exact fin hS (by kernel_rfl)
theorem w51 (n : Nat) (h : n ≤ 16) : Spec Tryd.prog 51 [.int .u64 1, .int .u64 n] (fun r => r = .tup [.int .u64 0, .int .u64 n]) := by
  refine Spec.of_awlS hf51 okf51 (by simp) fun S hS => ?_
  simp only [Qs, Nat.reduceAdd, Nat.reduceBEq, q_learn_eq_2, uu f51.eq_1, id @f51r3.eq_1, uu f51b4.eq_1, uu f51b9.eq_1, uu f51b10.eq_1, id @f51r11.eq_1, uu f51b12.eq_1]
  refine call_s (w60 n h) ?_
  simp only [Qs, List.append_nil, List.nodup_nil, Nat.reduceBEq, id @f51r1.eq_1, uu f51b2.eq_1]
  exact hS
theorem w61 : Spec Tryd.prog 61 [.str (List.replicate 64 48), .str [48]] (fun r => r = .bool true) := by
  refine Spec.of_awlS hf61 okf61 (by simp) fun S hS => ?_
  simp only [Qs, q_binStr_eq_2, if_true, BEq.rfl, List.nodup_nil, Nat.reduceAdd, Nat.reduceBEq, Int.reduceLE, Int.reduceGE, Int.reduceToNat, uu f61.eq_1, id @f61r1.eq_1, uu f61b2.eq_1, id @f61r3.eq_1, uu f61b4.eq_1]
  exact hS
theorem w52 : Spec Tryd.prog 52 [.str (List.replicate 64 48), .str [48]] (fun r => r = .bool true) := by
  refine Spec.of_awlS hf52 okf52 (by simp) fun S hS => ?_
  simp only [Qs, Nat.reduceAdd, Nat.reduceBEq, uu f52.eq_1, id @f52r1.eq_1, uu f52b2.eq_1, id @f52r3.eq_1, uu f52b4.eq_1]
  refine call_s w61 ?_
  simp only [Qs, List.nodup_nil]
  exact hS
mutual
def valOf : V → Value
  | .k (.c (.int k n)) => .int k n
  | .k (.c (.bool b)) => .bool b
  | .k (.c (.str s)) => .string ⟨s.toArray⟩
  | .tup vs => .tuple (valsOf vs).toArray
  | _ => .nilFunc
def valsOf : List V → List Value
  | [] => []
  | v :: vs => valOf v :: valsOf vs
end
mutual
theorem valOf_rep {w : World} {Z : Bk → Prop} {κ : Kap} {o : Nat → Option O} : ∀ (x : V) (v : Value), x.scalar = true → VRep w Z κ o x v → v = valOf x
  | .k (.c (.int k n)), v, _, h => prep_int h.2
  | .k (.c (.bool b)), v, _, h => by
    have h2 : PRep w Z (.bool b) v := h.2
    cases h2; rfl
  | .k (.c (.str s)), v, _, h => prep_str h.2
  | .tup vs, v, hs, ⟨us, e, hl, h⟩ => by
    obtain ⟨l⟩ := us
    rw [e, valOf, valsOf_rep vs l hs hl h]
  | .k (.c (.list _ _ _)), _, hs, _ => by cases hs
  | .k (.c (.ro _ _)), _, hs, _ => by cases hs
  | .k (.c (.fn _ _)), _, hs, _ => by cases hs
  | .k (.c .nilf), _, hs, _ => by cases hs
  | .k (.c (.gl _)), _, hs, _ => by cases hs
  | .k (.own _), _, hs, _ => by cases hs
  | .k (.ptr _ _), _, hs, _ => by cases hs
  | .k (.elem _ _ _), _, hs, _ => by cases hs
  | .k (.pel _ _ _ _), _, hs, _ => by cases hs
  | .k (.fnk _ _), _, hs, _ => by cases hs
  | .k (.newl _ _ _ _), _, hs, _ => by cases hs
  | .k .dead, _, hs, _ => by cases hs
  | .agg _, _, hs, _ => by cases hs
  | .agk _, _, hs, _ => by cases hs
  | .undef, _, hs, _ => by cases hs
  | .any, _, hs, _ => by cases hs
theorem valsOf_rep {w : World} {Z : Bk → Prop} {κ : Kap} {o : Nat → Option O} : ∀ (xs : List V) (vs : List Value), V.scalarL xs = true → vs.length = xs.length → VRepL w Z κ o xs vs → vs = valsOf xs
  | [], [], _, _, _ => rfl
  | x :: xs, v :: vs, hs, hl, h => by
    simp only [V.scalarL, Bool.and_eq_true] at hs
    rw [valsOf, valOf_rep x v hs.1 h.1, valsOf_rep xs vs hs.2 (by simpa using hl) h.2]
  | [], _ :: _, _, hl, _ => by simp at hl
  | _ :: _, [], _, hl, _ => by simp at hl
end
def scal1 : V → Bool
  | .k (.c (.int _ _)) => true
  | .k (.c (.bool _)) => true
  | .k (.c (.str _)) => true
  | _ => false
theorem scal1_rep {w : World} {Z : Bk → Prop} {x : V} (h : scal1 x = true) : x.isPure = true ∧ VRep w Z (fun _ => none) (fun _ => none) x (valOf x) := by
  unfold scal1 at h
  split at h
  · exact ⟨rfl, rfl, .int _ _⟩
  · exact ⟨rfl, rfl, .bool _⟩
  · exact ⟨rfl, rfl, .str _⟩
  · cases h
theorem Spec.scal {P : Program} {f : FuncId} {xs : List V} {r : V} (h : Spec P f xs (fun r' => r' = r)) (hx : xs.all scal1 = true) (hr : r.scalar = true) {W : World} (hG : GlobB (base W)) :
    Calls P f (xs.map valOf).toArray W fun e W' => e = .returned (valOf r) ∧ Below W.heap.size W W' := by
  refine (h.2 W (fun b => b.2 < W.heap.size) (xs.map valOf).toArray hG (fun _ h => h) ⟨by simp, fun j y u hy hu => ?_⟩).mono ?_
  · have hu' : (xs.map valOf)[j]? = some u := by simpa using hu
    rw [List.getElem?_map, hy] at hu'
    cases hu'
    exact scal1_rep (List.all_eq_true.1 hx y (List.mem_of_getElem? hy))
  · rintro e w' ⟨v, r', rfl, rfl, _, hrep⟩
    obtain ⟨κ, hi⟩ := hrep 0
    have hreg : (V.reg 0 r').1 = r' := by
      revert hr
      exact regS r'
    refine ⟨?_, below_of_kept hi.kept⟩
    have := hi.tmps 0
    simp only [if_pos] at this
    have e3 : (#[v] : Array Value).getD 0 undef = v := rfl
    rw [e3, hreg] at this
    rw [valOf_rep _ _ hr this]
where
  regS : ∀ x : V, x.scalar = true → (V.reg 0 x).1 = x
    | .k (.c _), _ => rfl
    | .tup vs, h => by rw [V.reg, regL vs h]
    | .k (.own _), h => by cases h
    | .k (.ptr _ _), h => by cases h
    | .k (.elem _ _ _), h => by cases h
    | .k (.pel _ _ _ _), h => by cases h
    | .k (.fnk _ _), h => by cases h
    | .k (.newl _ _ _ _), h => by cases h
    | .k .dead, h => by cases h
    | .agg _, h => by cases h
    | .agk _, h => by cases h
    | .undef, h => by cases h
    | .any, h => by cases h
  regL : ∀ xs : List V, V.scalarL xs = true → V.regL 0 xs = (xs, [])
    | [], _ => rfl
    | x :: xs, h => by
      simp only [V.scalarL, Bool.and_eq_true] at h
      have h1 := regB x h.1
      rw [V.regL, h1]
      simp only [List.length_nil, Nat.add_zero, regL xs h.2, List.append_nil]
  regB : ∀ x : V, x.scalar = true → V.reg 0 x = (x, [])
    | .k (.c _), _ => rfl
    | .tup vs, h => by rw [V.reg, regL vs h]
    | .k (.own _), h => by cases h
    | .k (.ptr _ _), h => by cases h
    | .k (.elem _ _ _), h => by cases h
    | .k (.pel _ _ _ _), h => by cases h
    | .k (.fnk _ _), h => by cases h
    | .k (.newl _ _ _ _), h => by cases h
    | .k .dead, h => by cases h
    | .agg _, h => by cases h
    | .agk _, h => by cases h
    | .undef, h => by cases h
    | .any, h => by cases h
theorem c51 {n : Nat} (hn : n ≤ 16) {W : World} (hG : GlobB (base W)) : Calls Tryd.prog 51 #[.int .u64 1, .int .u64 n] W fun e W' => e = .returned (.tuple #[.int .u64 0, .int .u64 n]) ∧ Below W.heap.size W W' := (w51 n hn).scal rfl rfl hG
theorem c52 {W : World} (hG : GlobB (base W)) : Calls Tryd.prog 52 #[.string ⟨(List.replicate 64 48).toArray⟩, .string ⟨#[48]⟩] W fun e W' => e = .returned (.bool true) ∧ Below W.heap.size W W' := w52.scal rfl rfl hG
theorem cw (B m k : Nat) (w : World) (hm : m ≤ k) (hk : k ≤ 16) (h : Go.Lib.IsBuilderF 72 5 B B (Go.Lib.byteCells (List.replicate k 0)) w) (hB : B ≤ w.heap.size) :
    Calls Tryd.prog 48 #[.pointer (some ⟨B, 0, none⟩), .string ((⟨Array.replicate k 0⟩ : ByteArray).extract 0 m)] w fun e w' => (∃ z : Int, e = .returned (.tuple #[.int .i64 z, .nilIface])) ∧ Go.Lib.IsBuilderF 72 5 B B (Go.Lib.byteCells (List.replicate (k + m) 0)) w' ∧ Below B w w' := by
  have e : (⟨Array.replicate k 0⟩ : ByteArray).extract 0 m = ⟨(List.replicate m 0).toArray⟩ := by
    apply ByteArray.ext
    apply Array.ext'
    rw [ByteArray.data_extract, Array.toList_extract, List.extract_eq_take_drop]
    simp
    omega
  rw [e]
  refine (b_write B B _ ⟨(List.replicate m 0).toArray⟩ w h (by rw [Go.Lib.byteCells_length, List.length_replicate]; show k + (List.replicate m (0 : UInt8)).toArray.size ≤ _; simp; omega) hB).mono ?_
  rintro e w' ⟨rfl, h1, h2⟩
  refine ⟨⟨_, rfl⟩, ?_, h2⟩
  have e2 : Go.Lib.byteCells (List.replicate k 0) ++ Go.Lib.strCells ⟨(List.replicate m 0).toArray⟩ = Go.Lib.byteCells (List.replicate (k + m) 0) := by
    rw [← List.replicate_append_replicate, Go.Lib.byteCells_append]; rfl
  rw [← e2]; exact h1
theorem rep_zero (n : Nat) (hn : n ≤ 16) (w : World) (hG : GlobB (base w)) :
    Calls Tryd.prog 43 #[.string ⟨#[0]⟩, .int .i64 n] w fun e w' => e = .returned (.string ⟨(List.replicate n 0).toArray⟩) ∧ Below w.heap.size w w' := by
  by_cases h0 : n = 0
  · subst h0
    go_enter Tryd.func43, Tryd.ntmps43
    go_wp2
    go_ret
    exact ⟨rfl, Below.refl _ _⟩
  by_cases h1 : n = 1
  · subst h1
    go_enter Tryd.func43, Tryd.ntmps43
    go_wp2
    go_ret
    exact ⟨rfl, Below.refl _ _⟩
  have i0 : ¬ (n : Int) = 0 := by omega
  have i1 : ¬ (n : Int) = 1 := by omega
  have i2 : ¬ (n : Int) < 0 := by omega
  have i3 : ¬ (n : Int) > 9223372036854775807 := by omega
  have i4 : ¬ (n : Int) > 8192 := by omega
  have wu : IntKind.u64.wrap (n : Int) = n := by unfold IntKind.wrap; simp [IntKind.signed, IntKind.bits]; omega
  have wi : IntKind.i64.wrap (n : Int) = n := wrap_in (by omega) (by omega)
  go_enter Tryd.func43, Tryd.ntmps43
  go_wp2_with (go_at_call 51; refine (c51 hn hG).mono ?_; rintro e w1 ⟨rfl, hb1⟩)
  have hg1 : (w1.alloc (.cells #[.pointer none, .slice none 0 0] 72)).heap[w1.heap.size]? = some (.cells #[.pointer none, .slice none 0 0] 72 (0, 0)) := alloc_get w1 _
  have hb2 : Below w1.heap.size w1 (w1.alloc (.cells #[.pointer none, .slice none 0 0] 72)) := (Below.refl _ w1).alloc (Nat.le_refl _) _
  go_wp2_with (go_at_call 47; refine (b_grow w1.heap.size w1.heap.size n _ (Nat.le_refl _) hg1 hb2.size (by omega)).mono ?_; rintro e w2 ⟨rfl, hI2, hb3⟩)
  have hb4 := hb2.trans hb3
  go_wp2_with (go_at_call 48; refine (b_write w1.heap.size w1.heap.size [] ⟨#[0]⟩ _ hI2 (by decide) hb4.size).mono ?_; rintro e w3 ⟨rfl, hI3, hb5⟩)
  have hb6 := hb4.trans hb5
  have hI4 : Lib.IsBuilderF 72 5 w1.heap.size w1.heap.size (Lib.byteCells (List.replicate 1 0)) w3 := hI3
  go_wp2
  go_loopg [10] (n - 1) (fun g c wr => ∃ k : Nat, 1 ≤ k ∧ k ≤ n ∧ g = n - k ∧ Lib.IsBuilderF 72 5 w1.heap.size w1.heap.size (Lib.byteCells (List.replicate k 0)) wr ∧ Below w1.heap.size w1 wr)
  case atStart => exact ⟨1, Nat.le_refl _, by omega, rfl, hI4, hb6⟩
  case round =>
    obtain ⟨k, k1, k2, rfl, hI, hb⟩ := hrel
    have hl : (Lib.byteCells (List.replicate k 0)).length = k := by rw [Lib.byteCells_length, List.length_replicate]
    have hL := b_len w1.heap.size w1.heap.size _ wr hI
    rw [hl] at hL
    by_cases hlt : k < n
    · have hkn : (k : Int) < n := by omega
      have ws : IntKind.i64.wrap ((n : Int) - k) = (n : Int) - k := wrap_in (by omega) (by omega)
      have hsz : w1.heap.size ≤ wr.heap.size := hb.size
      go_wp2_with (first | (go_at_call 53; refine hL.mono ?_; rintro e w4 ⟨rfl, rfl⟩) | (go_at_call 49; refine (b_stringF w1.heap.size w1.heap.size _ _ hI hsz).mono ?_; rintro e w5 ⟨rfl, hI5, hb7⟩))
      case inr =>
        refine (cw w1.heap.size (n - k) k _ (by omega) (by omega) hI5 (hb.trans hb7).size).mono ?_
        rintro e w6 ⟨⟨z, rfl⟩, hI6, hb8⟩
        clear hI5 hI hL hI4 hI2 hI3
        go_wp2
        go_roundg (n - (k + (n - k)))
        case rel => exact ⟨k + (n - k), by omega, by omega, rfl, hI6, hb.trans (hb7.trans hb8)⟩
        case measure => omega
      case inl =>
        refine (cw w1.heap.size k k _ (by omega) (by omega) hI5 (hb.trans hb7).size).mono ?_
        rintro e w6 ⟨⟨z, rfl⟩, hI6, hb8⟩
        clear hI5 hI hL hI4 hI2 hI3
        go_wp2
        go_roundg (n - (k + k))
        case rel => exact ⟨k + k, by omega, by omega, rfl, hI6, hb.trans (hb7.trans hb8)⟩
        case measure => omega
    · obtain rfl : k = n := by omega
      go_wp2_with (first | (go_at_call 53; refine hL.mono ?_; rintro e w4 ⟨rfl, rfl⟩) | (go_at_call 49; refine (b_stringF w1.heap.size w1.heap.size _ _ hI hb.size).mono ?_; rintro e w5 ⟨rfl, hI5, hb7⟩))
      go_wp2
      go_ret
      exact ⟨rfl, hb1.trans ((hb.trans hb7).mono hb1.size)⟩
theorem w61n (s : Txt) (hs : s.take 1 ≠ [48]) (hl : s.length ≤ 1000000) : Spec Tryd.prog 61 [.str s, .str [48]] (fun r => r = .bool false) := by
  refine Spec.of_awlS hf61 okf61 (by simp) fun S hS => ?_
  by_cases h : (s.length : Int) ≥ 1
  · have e : (s.take 1 == [48]) = false := by simpa using hs
    have b1 : (1 : Int) ≤ s.length := h
    simp only [h, b1, e, List.length_cons, List.length_nil, Qs, q_binStr_eq_2, if_true, List.nodup_nil, Nat.reduceAdd, Nat.reduceBEq, Int.reduceLE, Int.reduceToNat, uu f61.eq_1, id @f61r1.eq_1, uu f61b2.eq_1, id @f61r3.eq_1, uu f61b4.eq_1]
    simpa [e] using hS
  · simp only [h, List.length_cons, List.length_nil, Qs, if_true, List.nodup_nil, Nat.reduceAdd, Nat.reduceBEq, uu f61.eq_1, id @f61r1.eq_1, uu f61b2.eq_1, id @f61r3.eq_1, uu f61b4.eq_1]
    exact hS
theorem w52n (s : Txt) (hs : s.take 1 ≠ [48]) (hl : s.length ≤ 1000000) : Spec Tryd.prog 52 [.str s, .str [48]] (fun r => r = .bool false) := by
  refine Spec.of_awlS hf52 okf52 (by simp) fun S hS => ?_
  simp only [Qs, Nat.reduceAdd, Nat.reduceBEq, uu f52.eq_1, id @f52r1.eq_1, uu f52b2.eq_1, id @f52r3.eq_1, uu f52b4.eq_1]
  refine call_s (w61n s hs hl) ?_
  simp only [Qs, List.nodup_nil]
  exact hS
theorem c52n (X : ByteArray) (hs : X.data.toList.take 1 ≠ [48]) (hl : X.data.toList.length ≤ 1000000) {W : World} (hG : GlobB (base W)) : Calls Tryd.prog 52 #[.string X, .string ⟨#[48]⟩] W fun e W' => e = .returned (.bool false) ∧ Below W.heap.size W W' := (w52n _ hs hl).scal rfl rfl hG
theorem rep_eight (w : World) (hG : GlobB (base w)) :
    Calls Tryd.prog 43 #[.string ⟨#[48]⟩, .int .i64 8] w fun e w' => e = .returned (.string ⟨(List.replicate 8 48).toArray⟩) ∧ Below w.heap.size w w' := by
  have hG1 : ∀ {w1}, Below w.heap.size w w1 → GlobB (base w1) := fun hb => hG.later (kept_of_below hb)
  have h1 : Calls Tryd.prog 51 #[.int .u64 1, .int .u64 8] w fun e W' => e = .returned (.tuple #[.int .u64 0, .int .u64 8]) ∧ Below w.heap.size w W' := c51 (n := 8) (by decide) hG
  have h2 : ∀ (X : ByteArray) (W : World), Below w.heap.size w W → X.data.toList.take 1 ≠ [48] → X.data.toList.length ≤ 1000000 → Calls Tryd.prog 52 #[.string X, .string ⟨#[48]⟩] W fun e W' => e = .returned (.bool false) ∧ Below w.heap.size w W' :=
    fun X W hb a b => (c52n X a b (hG1 hb)).mono fun e W' h => ⟨h.1, hb.trans (h.2.mono hb.size)⟩
  have h3 : ∀ (W : World), Below w.heap.size w W → Calls Tryd.prog 52 #[.string ⟨(List.replicate 64 48).toArray⟩, .string ⟨#[48]⟩] W fun e W' => e = .returned (.bool true) ∧ Below w.heap.size w W' :=
    fun W hb => (c52 (hG1 hb)).mono fun e W' h => ⟨h.1, hb.trans (h.2.mono hb.size)⟩
  go_enter Tryd.func43, Tryd.ntmps43
  go_wp2_with (first
    | (go_at_call 51; refine h1.mono ?_; rintro e w1 ⟨rfl, hb1⟩)
    | (go_at_call 52; refine (h2 _ _ (by assumption) (by decide) (by decide)).mono ?_; rintro e w2 ⟨rfl, hb2⟩)
    | (go_at_call 52; refine (h3 _ (by assumption)).mono ?_; rintro e w3 ⟨rfl, hb3⟩))
  go_wp2
  go_ret
  exact ⟨rfl, hb3⟩
end Go.Abs


set_option maxRecDepth 100000
set_option maxHeartbeats 8000000
namespace Go.Proofs
open Go.Shelf Go.RowKit Go.Lib
def cat (enc : Nat → List UInt8) : Nat → List UInt8
  | 0 => []
  | k + 1 => cat enc k ++ enc k
theorem cat_le (enc : Nat → List UInt8) : ∀ {k n : Nat}, k ≤ n → (cat enc k).length ≤ (cat enc n).length
  | k, 0, h => by
    obtain rfl : k = 0 := by omega
    exact Nat.le_refl _
  | k, n + 1, h => by
    by_cases hk : k = n + 1
    · rw [hk]; exact Nat.le_refl _
    · have := cat_le enc (k := k) (n := n) (by omega)
      rw [cat, List.length_append]; omega
theorem b_writeL (B b : Nat) (l x : List UInt8) (w : World) (h : Lib.IsBuilderF 72 5 B b (Lib.byteCells l) w) (hlen : l.length + x.length ≤ 140737488355328) (hBw : B ≤ w.heap.size) :
    Calls Tryd.prog 48 #[.pointer (some ⟨b, 0, none⟩), .string ⟨x.toArray⟩] w fun e w' => e = .returned (.tuple #[.int .i64 x.length, .nilIface]) ∧ Lib.IsBuilderF 72 5 B b (Lib.byteCells (l ++ x)) w' ∧ Below B w w' := by
  have hsz : (⟨x.toArray⟩ : ByteArray).size = x.length := by show x.toArray.size = _; simp
  refine (b_write B b (Lib.byteCells l) ⟨x.toArray⟩ w h (by rw [Lib.byteCells_length, hsz]; exact hlen) hBw).mono ?_
  rintro e w' ⟨rfl, h1, h2⟩
  exact ⟨by rw [hsz], by rw [Lib.byteCells_append]; exact h1, h2⟩
theorem join_many (n cap b o : Nat) (enc : Nat → List UInt8) (w : World) (hb0 : b < w.heap.size) (hp : ∀ k, k < n → w.cell? ⟨b, o + k, none⟩ = some (.string ⟨(enc k).toArray⟩)) (h2 : 2 ≤ n) (hn : n ≤ 1000000) (hcap : n ≤ cap) (hlen : (cat enc n).length ≤ 140737488355328) :
    Calls Tryd.prog 41 #[.slice (some ⟨b, o, none⟩) n cap, .string ⟨#[]⟩] w fun e w' => e = .returned (.string ⟨(cat enc n).toArray⟩) ∧ Below w.heap.size w w' := by
  have i0 : ¬ (n : Int) = 0 := by omega
  have i1 : ¬ (n : Int) = 1 := by omega
  go_enter Tryd.func41, Tryd.ntmps41
  go_wp2
  have i0b : ((n : Int) == 0) = false := by simpa using i0
  have i1b : ((n : Int) == 1) = false := by simpa using i1
  simp only [i0b, i1b]
  go_loopg [5, 41] n (fun g t i wr => wr = w ∧ ∃ k : Nat, k ≤ n ∧ g = n - k ∧ i = .int .i64 k ∧ t = .int .i64 (cat enc k).length)
  case atStart => exact ⟨rfl, 0, Nat.zero_le _, rfl, rfl, rfl⟩
  case round =>
    obtain ⟨rfl, k, hk, rfl, rfl, rfl⟩ := hrel
    by_cases hlt : k < n
    · have hc := hp k hlt
      have hkn : (k : Int) < n := by omega
      have hle := cat_le enc (k := k + 1) (n := n) (by omega)
      rw [cat, List.length_append] at hle
      have hwr : IntKind.i64.wrap ((k : Int) + 1) = ((k + 1 : Nat) : Int) := by unfold IntKind.wrap; simp [IntKind.signed, IntKind.bits]; omega
      have hsz : (⟨(enc k).toArray⟩ : ByteArray).size = (enc k).length := by show (enc k).toArray.size = _; simp
      have hw2 : IntKind.i64.wrap (9223372036854775807 - ((cat enc k).length : Int)) = 9223372036854775807 - ((cat enc k).length : Int) := Go.Abs.wrap_in (by omega) (by omega)
      have hw3 : IntKind.i64.wrap (((cat enc k).length : Int) + (enc k).length) = (((cat enc k).length : Int) + (enc k).length) := Go.Abs.wrap_in (by omega) (by omega)
      have hng : ¬ ((enc k).length : Int) > 9223372036854775807 - ((cat enc k).length : Int) := by omega
      go_wp2
      go_roundg (n - (k + 1))
      case measure => omega
      case rel =>
        refine ⟨rfl, k + 1, by omega, rfl, by go_num, ?_⟩
        rw [cat, List.length_append]; go_num
    · obtain rfl : k = n := by omega
      rename World => w0
      have c0 := hp 0 (by omega)
      rw [Nat.add_zero] at c0
      have hle1 := cat_le enc (k := 1) (n := k) (by omega)
      have e01 : cat enc 1 = enc 0 := rfl
      rw [e01] at hle1
      have hg1 : (w0.alloc (.cells #[.pointer none, .slice none 0 0] 72)).heap[w0.heap.size]? = some (.cells #[.pointer none, .slice none 0 0] 72 (0, 0)) := Go.Abs.alloc_get w0 _
      have hb2 : Below w0.heap.size w0 (w0.alloc (.cells #[.pointer none, .slice none 0 0] 72)) := (Below.refl _ w0).alloc (Nat.le_refl _) _
      have hb4of : ∀ w2, Below w0.heap.size (w0.alloc (.cells #[.pointer none, .slice none 0 0] 72)) w2 → w2.cell? ⟨b, o, none⟩ = some (.string ⟨(enc 0).toArray⟩) := fun w2 h => ((hb2.trans h).cell (p := ⟨b, o, none⟩) hb0).trans c0
      go_wp2_with (first | (go_at_call 47; refine (b_grow w0.heap.size w0.heap.size (cat enc k).length _ (Nat.le_refl _) hg1 hb2.size (by omega)).mono ?_; rintro e w2 ⟨rfl, hI2, hb3⟩; have c0' := hb4of w2 hb3) | (go_at_call 48; refine (b_writeL w0.heap.size w0.heap.size [] (enc 0) _ hI2 (by rw [List.length_nil]; omega) (hb2.trans hb3).size).mono ?_; rintro e w3 ⟨rfl, hI3, hb5⟩))
      have hb6 := (hb2.trans hb3).trans hb5
      go_loopg [65] (k - 1) (fun g i w0' => Below w0.heap.size w0 w0' ∧ ∃ j : Nat, j + 1 ≤ k ∧ g = k - 1 - j ∧ i = .int .i64 j ∧ Lib.IsBuilderF 72 5 w0.heap.size w0.heap.size (Lib.byteCells (cat enc (j + 1))) w0')
      case atStart => exact ⟨hb6, 0, by omega, rfl, rfl, hI3⟩
      case round =>
        obtain ⟨hbx, j, hj, rfl, rfl, hIx⟩ := hrel
        by_cases hlt2 : j + 1 < k
        · have hkn : (j : Int) < k - 1 := by omega
          have hkn2 : (j : Int) < ((k - 1 : Nat) : Int) := by omega
          have hkn3 : j < k - 1 := by omega
          have cj0 := hp (j + 1) hlt2
          rw [show o + (j + 1) = o + 1 + j by omega] at cj0
          have cj := (hbx.cell (p := ⟨b, o + 1 + j, none⟩) hb0).trans cj0
          have hwr : IntKind.i64.wrap ((j : Int) + 1) = ((j + 1 : Nat) : Int) := by unfold IntKind.wrap; simp [IntKind.signed, IntKind.bits]; omega
          have hle2 := cat_le enc (k := j + 1 + 1) (n := k) (by omega)
          rw [cat, List.length_append] at hle2
          go_wp2_with (first | (go_at_call 48; refine (b_writeL w0.heap.size w0.heap.size (cat enc (j + 1)) (enc (j + 1)) _ hI5 (by omega) (hbx.trans hb7).size).mono ?_; rintro e w6 ⟨rfl, hI6, hb8⟩) | (go_at_call 48; refine (b_writeL w0.heap.size w0.heap.size (cat enc (j + 1)) [] _ hIx (by simp only [List.length_nil]; omega) hbx.size).mono ?_; rintro e w5 ⟨rfl, hI5, hb7⟩; rw [List.append_nil] at hI5))
          go_roundg (k - 1 - (j + 1))
          case measure => omega
          case rel => exact ⟨(hbx.trans hb7).trans hb8, j + 1, by omega, rfl, by go_num, hI6⟩
        · obtain rfl : j + 1 = k := by omega
          have hge : ¬ (j : Int) < ((j + 1 : Nat) : Int) - 1 := by omega
          have hge2 : ¬ (j : Int) < ((j + 1 - 1 : Nat) : Int) := by omega
          go_wp2_with (go_at_call 49; refine (b_stringF w0.heap.size w0.heap.size (cat enc (j + 1)) _ hIx hbx.size).mono ?_; rintro e w6 ⟨rfl, hI6, hb8⟩)
          go_ret
          exact ⟨rfl, hbx.trans hb8⟩
theorem join_none (cap : Nat) (ao : Option Addr) (w : World) :
    Calls Tryd.prog 41 #[.slice ao 0 cap, .string ⟨#[]⟩] w fun e w' => e = .returned (.string ⟨#[]⟩) ∧ Below w.heap.size w w' := by
  go_enter Tryd.func41, Tryd.ntmps41
  go_wp2
  go_ret
  exact ⟨rfl, Below.refl _ _⟩
theorem join_one (cap b o : Nat) (s : ByteArray) (w : World) (hc : w.cell? ⟨b, o, none⟩ = some (.string s)) (hcap : 1 ≤ cap) :
    Calls Tryd.prog 41 #[.slice (some ⟨b, o, none⟩) 1 cap, .string ⟨#[]⟩] w fun e w' => e = .returned (.string s) ∧ Below w.heap.size w w' := by
  go_enter Tryd.func41, Tryd.ntmps41
  go_wp2
  go_ret
  exact ⟨rfl, Below.refl _ _⟩
end Go.Proofs


set_option maxRecDepth 100000
set_option maxHeartbeats 8000000
namespace Go.Proofs
open Go.Shelf Go.RowKit Go.Lib
theorem info67 : ∃ i, Tryd.prog.info? 67 = some i ∧ i.zero = some (.agg #[.int .i64 0, .string ⟨#[]⟩]) ∧ i.size = 2 ∧ i.bytes = 24 := info_parts (by kernel_rfl)
theorem clone46 (b off n c : Nat) (news : List Value) (w : World) (hl : news.length = n * 2) (hn : n ≤ 512) (hc : ∀ j u, news[j]? = some u → w.cell? ⟨b, off + j, none⟩ = some u) (h1 : ∀ u ∈ news, u.oneCell' = true) :
    Calls Tryd.prog 46 #[.slice (some ⟨b, off, none⟩) n c] w fun e w' => ∃ v', e = .returned v' ∧ w'.ownsRow w.heap.size 67 2 v' n news ∧ Below w.heap.size w w' := by
  obtain ⟨i0, hi, hz0, hz1, hz2⟩ := info67
  have A : Aside (∀ j u, news[j]? = some u → w.cell? ⟨b, off + j, none⟩ = some u) := hc
  clear hc
  have q24 : ∀ (w : World) (a : Option Addr) (n c n' c' : Nat), (binOp .eql 25 (.slice a n c) (.slice none n' c')).run Tryd.prog w = .ok (.bool a.isNone) w := fun w a n c n' c' => Lib.run_eql_slice_nil w _ _ a n c n' c' Tryd.underlying25
  go_enter Tryd.func46, Tryd.ntmps46
  go_wp2_with (at_builtin; refine wpList_append_own _ rfl _ _ 25 rfl w.heap.size 67 i0 (.agg #[.int .i64 0, .string ⟨#[]⟩]) 2 24 Tryd.underlying25 hi hz0 hz1 hz2 rfl (by decide) _ _ _ rfl (World.ownsRow_made w #[] 0 (Nat.le_refl _) (Nat.zero_le _) rfl) ⟨b, off, none⟩ n c news rfl hl ?qc2 h1 ?qc4 ?qc5 ?qc6 ?_)
  case qc2 =>
    intro j u hj
    rw [Addr.add_lit]
    exact Lib.cell?_alloc_some _ (A.out j u hj)
  case qc4 => unfold maxLen; omega
  case qc5 => omega
  case qc6 => simp
  intro v' w1 hown hgrow hnil
  go_wp2
  go_ret
  exact ⟨v', rfl, by simpa using hown, ((Below.refl _ w).alloc (Nat.le_refl _) _).grown hgrow (by simp) (by intro k hk; simp [Value.ownBlock] at hk; omega)⟩
theorem clone46_nil (n c : Nat) (w : World) :
    Calls Tryd.prog 46 #[.slice none n c] w fun e w' => e = .returned (.slice none 0 0) ∧ w' = w := by
  have q24 : ∀ (w : World) (a : Option Addr) (n c n' c' : Nat), (binOp .eql 25 (.slice a n c) (.slice none n' c')).run Tryd.prog w = .ok (.bool a.isNone) w := fun w a n c n' c' => Lib.run_eql_slice_nil w _ _ a n c n' c' Tryd.underlying25
  go_enter Tryd.func46, Tryd.ntmps46
  go_wp2
  go_ret
  exact ⟨rfl, rfl⟩
theorem clone46_zero (a : Addr) (c : Nat) (w : World) :
    Calls Tryd.prog 46 #[.slice (some a) 0 c] w fun e w' => ∃ v', e = .returned v' ∧ w'.ownsRow w.heap.size 67 2 v' 0 [] ∧ Below w.heap.size w w' := by
  obtain ⟨i0, hi, hz0, hz1, hz2⟩ := info67
  have q24 : ∀ (w : World) (a : Option Addr) (n c n' c' : Nat), (binOp .eql 25 (.slice a n c) (.slice none n' c')).run Tryd.prog w = .ok (.bool a.isNone) w := fun w a n c n' c' => Lib.run_eql_slice_nil w _ _ a n c n' c' Tryd.underlying25
  go_enter Tryd.func46, Tryd.ntmps46
  go_wp2_with (at_builtin; refine wpList_append_own _ rfl _ _ 25 rfl w.heap.size 67 i0 (.agg #[.int .i64 0, .string ⟨#[]⟩]) 2 24 Tryd.underlying25 hi hz0 hz1 hz2 rfl (by decide) _ _ _ rfl (World.ownsRow_made w #[] 0 (Nat.le_refl _) (Nat.zero_le _) rfl) a 0 c [] rfl rfl (by intro j u hj; simp at hj) (by intro u hu; cases hu) (by unfold maxLen; omega) (by omega) (by simp) ?_)
  intro v' w1 hown hgrow hnil
  go_wp2
  go_ret
  exact ⟨v', rfl, by simpa using hown, ((Below.refl _ w).alloc (Nat.le_refl _) _).grown hgrow (by simp) (by intro k hk; simp [Value.ownBlock] at hk; omega)⟩
theorem clone46_any (p : Option Addr) (n c : Nat) (news : List Value) (w : World) (hl : news.length = n * 2) (hn : n ≤ 512) (hc : 0 < n → ∃ b off, p = some ⟨b, off, none⟩ ∧ ∀ j u, news[j]? = some u → w.cell? ⟨b, off + j, none⟩ = some u) (h1 : ∀ u ∈ news, u.oneCell' = true) :
    Calls Tryd.prog 46 #[.slice p n c] w fun e w' => ∃ v', e = .returned v' ∧ w'.ownsRow w.heap.size 67 2 v' n news ∧ Below w.heap.size w w' := by
  by_cases h0 : n = 0
  · subst h0
    obtain rfl : news = [] := List.eq_nil_of_length_eq_zero (by omega)
    cases p with
    | none => exact (clone46_nil 0 c w).mono (by rintro e w' ⟨rfl, rfl⟩; exact ⟨_, rfl, ⟨rfl, .inl ⟨rfl, rfl⟩⟩, Below.refl _ _⟩)
    | some a => exact clone46_zero a c w
  · obtain ⟨b, off, rfl, h⟩ := hc (by omega)
    exact clone46 b off n c news w hl hn h h1
theorem al_size (w : World) (A : Obj) : (w.alloc A).heap.size = w.heap.size + 1 := by
  show (w.heap.push A).size = _
  exact Array.size_push ..
theorem al_get1 (w : World) (A B : Obj) : ((w.alloc A).alloc B).heap[w.heap.size]? = some A := by
  have h := ((Below.refl (w.heap.size + 1) (w.alloc A)).alloc (Nat.le_of_eq (al_size w A).symm) B).block w.heap.size (Nat.lt_succ_self _)
  rw [h]
  exact Go.Abs.alloc_get w A
theorem al_get2 (w : World) (A B : Obj) : ((w.alloc A).alloc B).heap[w.heap.size + 1]? = some B := by
  rw [← al_size w A]; exact Go.Abs.alloc_get _ B
theorem al_get3 (w : World) (A B C : Obj) : (((w.alloc A).alloc B).alloc C).heap[w.heap.size + 2]? = some C := by
  rw [show w.heap.size + 2 = (w.heap.size + 1) + 1 from rfl, ← al_size w A]; exact al_get2 (w.alloc A) B C
theorem fresh36 (b1 o1 n1 c1 : Nat) (ss : List Value) (p : Option Addr) (n2 c2 : Nat) (news : List Value) (l : Int) (bb : Bool) (w : World) (hn1 : n1 ≤ 512) (hl1 : ss.length = n1) (h11 : ∀ u ∈ ss, u.oneCell' = true) (h10 : 0 < n1) (hc1 : ∀ j u, ss[j]? = some u → w.cell? ⟨b1, o1 + j, none⟩ = some u)
    (hl : news.length = n2 * 2) (hn : n2 ≤ 512) (hc : 0 < n2 → ∃ b off, p = some ⟨b, off, none⟩ ∧ ∀ j u, news[j]? = some u → w.cell? ⟨b, off + j, none⟩ = some u) (h1 : ∀ u ∈ news, u.oneCell' = true) :
    Calls Tryd.prog 36 #[.agg #[.slice (some ⟨b1, o1, none⟩) n1 c1, .slice p n2 c2, .int .i64 l, .bool bb]] w fun e w' => ∃ g v', e = .returned (.agg #[.slice (some ⟨g, 0, none⟩) n1 n1, v', .int .i64 l, .bool bb]) ∧ w.heap.size ≤ g ∧ w'.heap[g]? = some (.cells ss.toArray 9 (0, 0)) ∧ (∃ B, w'.ownsRow B 67 2 v' n2 news ∧ g < B) ∧ Below w.heap.size w w' := by
  have b1lt : b1 < w.heap.size := by
    obtain ⟨u, hu⟩ : ∃ u, ss[0]? = some u := ⟨ss[0], by simp [hl1, h10]⟩
    have := hc1 0 u hu
    exact Nat.lt_of_not_le fun hge => by simp [World.cell?, Array.getElem?_eq_none hge] at this
  obtain ⟨zs, hzl, hmk⟩ : ∃ zs : List Value, zs.length = n1 ∧ ∀ w : World, (Instr.makeSlice 22 (.int .i64 (n1 : Int)) (.int .i64 (n1 : Int))).run Tryd.prog w = .ok (.slice (some ⟨w.heap.size, 0, none⟩) n1 n1) (w.alloc (.cells zs.toArray 9)) := by
    obtain ⟨i0, hi, hz0, hz1, hz2⟩ := info_parts (P := Tryd.prog) (e := 9) (z := .string ⟨#[]⟩) (size := 1) (bytes := 16) (by kernel_rfl)
    refine ⟨(madeCells (Value.string ⟨#[]⟩).cells n1).toList, by rw [Array.length_toList, size_madeCells], fun w => ?_⟩
    have h := run_makeSlice (P := Tryd.prog) (w := w) 22 9 i0 (.string ⟨#[]⟩) Tryd.underlying22 hi hz0 .i64 .i64 (n1 : Int) (n1 : Int) (by omega) (Int.le_refl _) (by rw [hz1]; simp; omega) (by rw [hz2]; omega) (by omega)
    rw [hz1] at h
    simpa using h
  go_enter Tryd.func36, Tryd.ntmps36
  obtain ⟨Wa, hWa⟩ : ∃ Wa, Wa = (w.alloc (Obj.cells #[Value.slice (some { block := b1, off := o1 }) n1 c1, Value.slice p n2 c2, .int .i64 l, .bool bb] 27)).alloc (Obj.cells #[Value.slice none 0 0, Value.slice none 0 0, Value.int IntKind.i64 0, Value.bool false] 27) := ⟨_, rfl⟩
  go_wp2_with ((refine wpList_copy_splice rfl (.tmp 8) (.tmp 10) 22 22 rfl 9 Tryd.underlying22 (by kernel_rfl) _ _ n1 n1 n1 c1 rfl rfl (w.heap.size + 2) 0 zs 9 ?hg ss ?hn ?hpos ?hfit h11 (w.heap.size + 2) Wa ?hb ?hBg ?_))
  case hg => exact al_get3 _ _ _ _
  case hn => rw [hl1]; exact (Nat.min_self n1).symm
  case hpos => intro j v hv; exact Lib.cell?_alloc_some _ (Lib.cell?_alloc_some _ (Lib.cell?_alloc_some _ (hc1 j v hv)))
  case hfit => omega
  case hb => subst hWa; exact (Below.refl _ _).alloc (by rw [al_size, al_size]; exact Nat.le_refl _) _
  case hBg => exact Nat.le_refl _
  intro w3 hg3 hb3
  have hg3 := hg3.out
  have hsp : splice zs 0 ss = ss := by
    unfold splice
    rw [Nat.zero_add, List.take_zero, List.nil_append, List.drop_eq_nil_of_le (by omega), List.append_nil]
  rw [hsp] at hg3
  have hba : Below w.heap.size w ((w.alloc (Obj.cells #[Value.slice (some { block := b1, off := o1 }) n1 c1, Value.slice p n2 c2, .int .i64 l, .bool bb] 27)).alloc (Obj.cells #[Value.slice none 0 0, Value.slice none 0 0, Value.int IntKind.i64 0, Value.bool false] 27)) := ((Below.refl _ w).alloc (Nat.le_refl _) _).alloc (by rw [al_size]; omega) _
  have hs3 : w.heap.size + 3 ≤ w3.heap.size := by
    have := Go.Abs.heap_lt hg3
    omega
  have q0 : w3.heap[w.heap.size]? = some (.cells #[Value.slice (some { block := b1, off := o1 }) n1 c1, Value.slice p n2 c2, .int .i64 l, .bool bb] 27 (0, 0)) := (hb3.block _ (by omega)).trans (al_get1 _ _ _)
  have q1 : w3.heap[w.heap.size + 1]? = some (.cells #[Value.slice none 0 0, Value.slice none 0 0, Value.int IntKind.i64 0, Value.bool false] 27 (0, 0)) := (hb3.block _ (by omega)).trans (al_get2 _ _ _)
  have hbw : Below w.heap.size w w3 := hba.trans ⟨hb3.os, hb3.tape, hb3.output, hb3.size, fun k hk => hb3.block k (by omega)⟩
  have hc' : 0 < n2 → ∃ b off, p = some ⟨b, off, none⟩ ∧ ∀ j u, news[j]? = some u → w3.cell? ⟨b, off + j, none⟩ = some u := fun h => by
    obtain ⟨b, off, rfl, h⟩ := hc h
    refine ⟨b, off, rfl, fun j u hj => (hbw.cell (p := ⟨b, off + j, none⟩) ?_).trans (h j u hj)⟩
    have := h j u hj
    exact Nat.lt_of_not_le fun hge => by simp [World.cell?, Array.getElem?_eq_none hge] at this
  have k0 : w3.cell? ⟨w.heap.size, 0, none⟩ = some (Value.slice (some { block := b1, off := o1 }) n1 c1) := by rw [Lib.cell_of_heap q0]; rfl
  have k1 : w3.cell? ⟨w.heap.size, 1, none⟩ = some (Value.slice p n2 c2) := by rw [Lib.cell_of_heap q0]; rfl
  clear hc hc1 hb3
  have after : ∀ w4, Below w3.heap.size w3 w4 → w4.heap[w.heap.size]? = some (.cells #[Value.slice (some { block := b1, off := o1 }) n1 c1, Value.slice p n2 c2, .int .i64 l, .bool bb] 27 (0, 0)) ∧ w4.heap[w.heap.size + 1]? = some (.cells #[Value.slice none 0 0, Value.slice none 0 0, Value.int IntKind.i64 0, Value.bool false] 27 (0, 0)) ∧ w4.heap[w.heap.size + 2]? = some (.cells ss.toArray 9 (0, 0)) := fun w4 h4 => ⟨(h4.block _ (by omega)).trans q0, (h4.block _ (by omega)).trans q1, (h4.block _ (by omega)).trans hg3⟩
  go_wp2_with (go_at_call 46; refine (clone46_any p n2 c2 news w3 hl hn hc' h1).mono ?_; rintro e w4 ⟨v', rfl, hown, hb4⟩; obtain ⟨r0, r1, r2⟩ := after w4 hb4; have d0 : w4.cell? ⟨w.heap.size, 0, none⟩ = some (Value.slice (some { block := b1, off := o1 }) n1 c1) := (by rw [Lib.cell_of_heap r0]; rfl); have d1 : w4.cell? ⟨w.heap.size, 1, none⟩ = some (Value.slice p n2 c2) := (by rw [Lib.cell_of_heap r0]; rfl); have d2 : w4.cell? ⟨w.heap.size, 2, none⟩ = some (.int .i64 l) := (by rw [Lib.cell_of_heap r0]; rfl); have d3 : w4.cell? ⟨w.heap.size, 3, none⟩ = some (.bool bb) := (by rw [Lib.cell_of_heap r0]; rfl); have e0 : w4.cell? ⟨w.heap.size + 1, 0, none⟩ = some (Value.slice none 0 0) := (by rw [Lib.cell_of_heap r1]; rfl); have e1 : w4.cell? ⟨w.heap.size + 1, 1, none⟩ = some (Value.slice none 0 0) := (by rw [Lib.cell_of_heap r1]; rfl); have e2 : w4.cell? ⟨w.heap.size + 1, 2, none⟩ = some (Value.int .i64 0) := (by rw [Lib.cell_of_heap r1]; rfl); have e3 : w4.cell? ⟨w.heap.size + 1, 3, none⟩ = some (Value.bool false) := (by rw [Lib.cell_of_heap r1]; rfl); have f0 := Lib.frozen_of_heap r0; have f1 := Lib.frozen_of_heap r1; obtain ⟨ao, n', cap', rfl⟩ : ∃ ao n' cap', v' = .slice ao n' cap' := (by rcases hown.2 with ⟨hv, _⟩ | ⟨g, cap, cur, hv, _⟩ <;> exact ⟨_, _, _, hv⟩))
  have hoth : ∀ k, k ≠ w.heap.size → k ≠ w.heap.size + 1 → ((((((w4.setCell { block := w.heap.size, off := 0 } (Value.slice (some { block := w.heap.size + 1 + 1, off := 0 }) n1 n1)).setCell { block := w.heap.size, off := 1 } (Value.slice ao n' cap')).setCell { block := w.heap.size + 1, off := 0 } (Value.slice (some { block := w.heap.size + 1 + 1, off := 0 }) n1 n1)).setCell { block := w.heap.size + 1, off := 1 } (Value.slice ao n' cap')).setCell { block := w.heap.size + 1, off := 2 } (Value.int IntKind.i64 l)).setCell { block := w.heap.size + 1, off := 3 } (Value.bool bb)).heap[k]? = w4.heap[k]? := by
    intro k h1 h2
    simp [World.setCell, Array.getElem?_modify, Ne.symm h1, Ne.symm h2]
  have hres : ((((((w4.setCell { block := w.heap.size, off := 0 } (Value.slice (some { block := w.heap.size + 1 + 1, off := 0 }) n1 n1)).setCell { block := w.heap.size, off := 1 } (Value.slice ao n' cap')).setCell { block := w.heap.size + 1, off := 0 } (Value.slice (some { block := w.heap.size + 1 + 1, off := 0 }) n1 n1)).setCell { block := w.heap.size + 1, off := 1 } (Value.slice ao n' cap')).setCell { block := w.heap.size + 1, off := 2 } (Value.int IntKind.i64 l)).setCell { block := w.heap.size + 1, off := 3 } (Value.bool bb)).heap[w.heap.size + 1]? = some (.cells #[Value.slice (some { block := w.heap.size + 1 + 1, off := 0 }) n1 n1, Value.slice ao n' cap', .int .i64 l, .bool bb] 27 (0, 0)) := by
    simp [World.setCell, Array.getElem?_modify, r1]
  have hbf : Below w.heap.size w ((((((w4.setCell { block := w.heap.size, off := 0 } (Value.slice (some { block := w.heap.size + 1 + 1, off := 0 }) n1 n1)).setCell { block := w.heap.size, off := 1 } (Value.slice ao n' cap')).setCell { block := w.heap.size + 1, off := 0 } (Value.slice (some { block := w.heap.size + 1 + 1, off := 0 }) n1 n1)).setCell { block := w.heap.size + 1, off := 1 } (Value.slice ao n' cap')).setCell { block := w.heap.size + 1, off := 2 } (Value.int IntKind.i64 l)).setCell { block := w.heap.size + 1, off := 3 } (Value.bool bb)) :=
    ((((((hbw.trans (hb4.mono hbw.size)).setCell (Nat.le_refl _) _).setCell (Nat.le_refl _) _).setCell (Nat.le_succ _) _).setCell (Nat.le_succ _) _).setCell (Nat.le_succ _) _).setCell (Nat.le_succ _) _
  generalize ((((((w4.setCell { block := w.heap.size, off := 0 } (Value.slice (some { block := w.heap.size + 1 + 1, off := 0 }) n1 n1)).setCell { block := w.heap.size, off := 1 } (Value.slice ao n' cap')).setCell { block := w.heap.size + 1, off := 0 } (Value.slice (some { block := w.heap.size + 1 + 1, off := 0 }) n1 n1)).setCell { block := w.heap.size + 1, off := 1 } (Value.slice ao n' cap')).setCell { block := w.heap.size + 1, off := 2 } (Value.int IntKind.i64 l)).setCell { block := w.heap.size + 1, off := 3 } (Value.bool bb)) = W5 at hoth hres hbf ⊢
  refine bodyPost_ret (results_cell_row rfl _ _ (w.heap.size + 1) 27 _ (0, 0) _ rfl hres Tryd.underlying27 rfl (by kernel_rfl)) rfl ?_
  have hown5 : W5.ownsRow w3.heap.size 67 2 (.slice ao n' cap') n2 news := by
    refine ⟨hown.1, hown.2.imp id ?_⟩
    rintro ⟨g, cap, cur, hv, hg, hh, hr⟩
    exact ⟨g, cap, cur, hv, hg, (hoth g (by omega) (by omega)).trans hh, hr⟩
  exact ⟨w.heap.size + 2, .slice ao n' cap', rfl, by omega, (hoth _ (by omega) (by omega)).trans r2, ⟨_, hown5, hs3⟩, hbf⟩
end Go.Proofs


set_option maxRecDepth 10000
namespace Go.Jr
open Go.Wire
structure Wr where
  pos : Int
  text : Txt
  deriving Inhabited, DecidableEq
structure Disk where
  secs : List Txt
  pend : List Wr
  left : Int
  down : Bool
  deriving Inhabited, DecidableEq
def zeroD : Disk := ⟨[], [], 0, false⟩
def zeros (n : Nat) : Txt := List.replicate n 0
def newD (n : Nat) : Disk := ⟨List.replicate n (zeros 16), [], -1, false⟩
structure Right (d : Disk) : Prop where
  lo : 1 ≤ d.secs.length
  hi : d.secs.length ≤ 512
  pe : d.pend.length ≤ 512
  l0 : -1 ≤ d.left
  l1 : d.left ≤ 512
  dn : d.down = true → d.pend = [] ∧ d.left = -1
  se : ∀ s ∈ d.secs, s.length = 16
  wr : ∀ w ∈ d.pend, 0 ≤ w.pos ∧ w.pos < d.secs.length ∧ w.text.length = 16
def writeD (d : Disk) (i : Int) (s : Txt) : Disk × Int :=
  if d.down = true then (zeroD, 8)
  else if i < 0 ∨ i ≥ d.secs.length ∨ s.length > 16 then (zeroD, 1)
  else if d.pend.length ≥ 512 then (zeroD, 6)
  else (⟨d.secs, d.pend ++ [⟨i, s ++ zeros (16 - s.length)⟩], d.left, d.down⟩, 0)
def perf (l : List Txt) : List Wr → List Txt
  | [] => l
  | w :: r => perf (l.set w.pos.toNat w.text) r
def flushD (d : Disk) : Disk × Int :=
  if d.down = true then (zeroD, 8)
  else if 0 ≤ d.left ∧ d.left < d.pend.length then
    (⟨(perf d.secs (d.pend.take d.left.toNat)).set (d.pend.getD d.left.toNat default).pos.toNat ((d.pend.getD d.left.toNat default).text.take 8 ++ ((perf d.secs (d.pend.take d.left.toNat)).getD (d.pend.getD d.left.toNat default).pos.toNat []).drop 8), [], -1, true⟩, 8)
  else (⟨perf d.secs d.pend, [], if 0 ≤ d.left then d.left - d.pend.length else -1, false⟩, 0)
def armD (d : Disk) (k : Int) : Disk × Int :=
  if d.down = true then (zeroD, 8) else if k < 0 ∨ k > 512 then (zeroD, 1) else (⟨d.secs, d.pend, k, d.down⟩, 0)
def cutD (d : Disk) : Disk × Int := if d.down = true then (zeroD, 8) else (⟨d.secs, [], -1, true⟩, 0)
def startD (d : Disk) : Disk × Int := if d.down = true then (⟨d.secs, d.pend, d.left, false⟩, 0) else (zeroD, 7)
def dig : Nat → Nat → Txt
  | 0, _ => []
  | k + 1, n => dig k (n / 10) ++ [UInt8.ofNat (48 + n % 10)]
def hdr (n : Nat) : Txt := dig 8 n ++ dig 8 n
def isDig (c : UInt8) : Bool := decide (48 ≤ c.toNat ∧ c.toNat ≤ 57)
def valD (l : Txt) : Nat := l.foldl (fun a c => a * 10 + (c.toNat - 48)) 0
def numT (s : Txt) : Option Nat := if s.take 8 = s.drop 8 ∧ (s.take 8).all isDig = true then some (valD (s.take 8)) else none
def readyD (d : Disk) : Int := if d.down = true then 8 else if d.pend = [] then 0 else 7
def logD (d : Disk) : Txt := (d.secs.drop 2).flatten
def curD (a b : Option Nat) : Option (Int × Nat) := match a, b with
  | none, none => none
  | some n, none => some (0, n)
  | none, some m => some (1, m)
  | some n, some m => if m > n then some (1, m) else some (0, n)
def pz : Nat → Txt → Option (List Txt)
  | _, [] => some []
  | 0, _ :: _ => none
  | k + 1, c :: t => (rS (c :: t)).bind fun p => if p.1.length > 2000 then none else (pz k p.2).map (p.1 :: ·)
structure Con where
  list : List Txt
  bytes : Txt
  cur : Int
  deriving Inhabited, DecidableEq
def readJ (d : Disk) : Con × Int :=
  if readyD d ≠ 0 then (⟨[], [], 0⟩, readyD d)
  else if d.secs.length ≤ 2 then (⟨[], [], 0⟩, 22)
  else match curD (numT (d.secs.getD 0 [])) (numT (d.secs.getD 1 [])) with
    | none => (⟨[], [], 0⟩, 22)
    | some (c, n) => if n > (logD d).length then (⟨[], [], 0⟩, 22) else
      match pz n ((logD d).take n) with
      | none => (⟨[], [], 0⟩, 22)
      | some l => if l.length > 500 then (⟨[], [], 0⟩, 22) else (⟨l, (logD d).take n, c⟩, 0)
def formatJ (d : Disk) : Disk × Int :=
  if readyD d ≠ 0 then (zeroD, readyD d)
  else if d.secs.length ≤ 2 then (zeroD, 6)
  else flushD (writeD (writeD d 0 (hdr 0)).1 1 (hdr 0)).1
def putJ (all : Txt) : Nat → Nat → Disk → Disk
  | 0, _, d => d
  | k + 1, i, d => if 16 * i < all.length then putJ all k (i + 1) (writeD d (2 + i) ((all.drop (16 * i)).take 16)).1 else d
def appendJ (d : Disk) (s : Txt) : Disk × Int :=
  if (readJ d).2 ≠ 0 then (zeroD, (readJ d).2)
  else if s.length > 2000 then (zeroD, 1)
  else if (readJ d).1.list.length = 500 ∨ ((readJ d).1.bytes ++ wS s).length > (d.secs.length - 2) * 16 then (zeroD, 6)
  else
    let x := flushD (putJ ((readJ d).1.bytes ++ wS s) ((readJ d).1.bytes ++ wS s).length ((readJ d).1.bytes.length / 16) d)
    if x.2 ≠ 0 then x else flushD (writeD x.1 (1 - (readJ d).1.cur) (hdr ((readJ d).1.bytes ++ wS s).length)).1
end Go.Jr

