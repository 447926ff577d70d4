/- A part of the proof; the last text states what is proved. -/
import Derived.Test.YtdgcoipbcloieaaGreatDoorP3
import Derived.Test.YtdgcoipbcloieaaGreatDoorProg
import Derived.IntWalk
import Derived.Lib.AtoiAll
import Derived.Lib.ItoaNum
import Derived.Shelf.Strconv.Itoa3
import Derived.Shelf.Strconv.AtoiAll
import Derived.Shelf.Strings.Cut
import Derived.Shelf.Strings.BuilderK
import Derived.Shelf.Strings.Builder2
import Derived.WalkKit
import Derived.BigCall
import Derived.OwnWalk
import Derived.Deep.QuietTactic
import Derived.BigQuiet
import Derived.Lib.IndexMore
set_option linter.unusedVariables false
set_option linter.unusedSimpArgs false
set_option maxRecDepth 100000
namespace Go.Abs
open Go.Proofs
theorem uu {a b : AQ} (h : a = b) (P ts os Q) : awl P a Q ts os = awl P b Q ts os := h ▸ rfl
def f5r1 : List AI := [⟨none, (.load 25 4 true (.t 4))⟩, ⟨none, (.store 4 (.t 2) (.t 25))⟩, ⟨none, (.mov 3 (.v (.k (.c (.int .i64 0)))))⟩]
def f5b2 : AQ := (.seq (.region f5r1) .ret)
def f5r3 : List AI := [⟨none, (.mov 17 (.t 5))⟩, ⟨none, (.bin 18 .add (.t 17) (.v (.k (.c (.int .i64 1)))))⟩, ⟨none, (.mov 5 (.t 18))⟩]
def f5r4 : List AI := [⟨none, (.faddr 19 0 (.t 4))⟩, ⟨none, (.load 20 1 false (.t 19))⟩, ⟨none, (.call (some 21) 21 [(.v (.k (.c (.int .i64 16))))])⟩, ⟨none, (.bslice 22 9 1 [(.str [])] 1 [(0, (.t 21))])⟩, ⟨none, (.append 23 9 1 16 (.t 20) (.t 22))⟩, ⟨none, (.faddr 24 0 (.t 4))⟩, ⟨none, (.store 1 (.t 24) (.t 23))⟩]
def f5b5 : AQ := (.block 1 (.draw f5r4 [[], [0], [], [2], [1, 3, 2], [0, 1, 2, 3, 4], [5, 4, 4, 0, 1, 2, 3, 4]]))
def f5b6 : AQ := (.seq f5b5 (.region f5r3))
def f5b7 : AQ := (.cond (.t 16) .skip (.exit 0))
def f5r8 : List AI := [⟨none, (.mov 14 (.t 5))⟩, ⟨none, (.mov 15 (.t 0))⟩, ⟨none, (.bin 16 .lss (.t 14) (.t 15))⟩]
def f5b9 : AQ := (.seq (.region f5r8) f5b7)
def f5b10 : AQ := (.seq f5b9 f5b6)
def f5l11 : AQ := .loop [0, 2, 4, 5] [2, 4, 23] f5b10
theorem uf5l11 (P ts os Q) : awl P f5l11 Q ts os = awl P (.loop [0, 2, 4, 5] [2, 4, 23] f5b10) Q ts os := id rfl
def f5b12 : AQ := (.block 0 f5l11)
def f5r13 : List AI := [⟨none, (.mov 5 (.v (.k (.c (.int .i64 0)))))⟩]
def f5b14 : AQ := (.seq (.region f5r13) f5b12)
def f5b15 : AQ := (.seq f5b14 f5b2)
def f5r16 : List AI := [(AI.mk none (.build 13 [(.list 0 (some true) []), (.list 0 (some true) []), (.int .i64 0), (.bool false)] [(2, (1, (.v (.k (.c (.int .i64 (-1)))))))])), ⟨none, (.alloc 4 27 [(.list 0 (some true) []), (.list 0 (some true) []), (.int .i64 0), (.bool false)])⟩, ⟨none, (.store 4 (.t 4) (.t 13))⟩]
def f5b17 : AQ := (.seq (.region f5r16) f5b15)
def f5r18 : List AI := [⟨none, (.build 12 [(.list 0 (some true) []), (.list 0 (some true) []), (.int .i64 0), (.bool false)] [])⟩, ⟨none, (.store 4 (.t 2) (.t 12))⟩, ⟨none, (.mov 3 (.v (.k (.c (.int .i64 1)))))⟩]
def f5b19 : AQ := (.seq (.region f5r18) .ret)
def f5b20 : AQ := (.cond (.t 11) f5b19 .skip)
def f5r21 : List AI := [⟨none, (.mov 6 (.t 0))⟩, ⟨none, (.bin 7 .lss (.t 6) (.v (.k (.c (.int .i64 1)))))⟩, ⟨none, (.mov 8 (.t 7))⟩, ⟨(some (8, false)), (.mov 9 (.t 0))⟩, ⟨(some (8, false)), (.bin 10 .gtr (.t 9) (.v (.k (.c (.int .i64 512)))))⟩, ⟨none, (.pick 11 (.t 8) (.v (.k (.c (.bool true)))) (.t 10))⟩]
def f5b22 : AQ := (.seq (.region f5r21) f5b20)
def f5b23 : AQ := (.seq f5b22 f5b17)
def f5r24 : List AI := [⟨none, (.alloc 2 27 [(.list 0 (some true) []), (.list 0 (some true) []), (.int .i64 0), (.bool false)])⟩, ⟨none, (.mov 3 (.v (.k (.c (.int .i64 0)))))⟩]
def f5b25 : AQ := (.seq (.region f5r24) f5b23)
def f5 : AQ := f5b25
theorem hf5 : cFunc Tryz.prog 5 = some ⟨26, f5.erase, [(RX.cell 2 4 true), (RX.t 3)]⟩ := by kernel_rfl
theorem okf5 : f5.ok = true := by kernel_rfl
def f7r1 : List AI := [⟨none, (.load 32 4 true (.t 7))⟩, ⟨none, (.call (some 33) 24 [(.t 32)])⟩, ⟨none, (.extr 34 (.t 33) 0)⟩, ⟨none, (.extr 35 (.t 33) 1)⟩, ⟨none, (.store 4 (.t 2) (.t 34))⟩, ⟨none, (.mov 3 (.t 35))⟩]
def f7b2 : AQ := (.seq (.region f7r1) .ret)
def f7r3o0 : AI := ⟨none, (.load 27 4 true (.t 5))⟩
def f7r3o1 : AI := ⟨none, (.call (some 28) 23 [(.v (.k (.c (.int .i64 0))))])⟩
def f7r3o2 : AI := ⟨none, (.call (some 29) 15 [(.t 27), (.v (.k (.c (.int .i64 1)))), (.t 28)])⟩
def f7r3o3 : AI := ⟨none, (.mov 26 (.t 29))⟩
def f7r3o4 : AI := ⟨none, (.extr 30 (.t 26) 0)⟩
def f7r3o5 : AI := ⟨none, (.extr 31 (.t 26) 1)⟩
def f7r3o6 : AI := ⟨none, (.alloc 7 27 [(.list 0 (some true) []), (.list 0 (some true) []), (.int .i64 0), (.bool false)])⟩
def f7r3o7 : AI := ⟨none, (.store 4 (.t 7) (.t 30))⟩
def f7r3o8 : AI := ⟨none, (.mov 8 (.t 31))⟩
def f7r3 : List AI := [f7r3o0, f7r3o1, f7r3o2, f7r3o3, f7r3o4, f7r3o5, f7r3o6, f7r3o7, f7r3o8]
theorem utf7r3 : treeOf f7r3 [[], [], [0, 1, 1], [2], [3], [3], [], [6, 4, 2, 0, 1, 2, 3, 4, 6], [5, 7, 0, 1, 2, 3, 4, 5, 6, 7]] = (.one f7r3o6 (.one f7r3o0 (.one f7r3o1 (.one f7r3o2 (.one f7r3o3 (.one f7r3o4 (.alt (.one f7r3o5 (.one f7r3o7 (.one f7r3o8 .done))) (.alt (.one f7r3o7 (.one f7r3o5 (.one f7r3o8 .done))) .top)))))))) := by kernel_rfl
def f7b4 : AQ := (.seq (.tree f7r3 [[], [], [0, 1, 1], [2], [3], [3], [], [6, 4, 2, 0, 1, 2, 3, 4, 6], [5, 7, 0, 1, 2, 3, 4, 5, 6, 7]]) (.keep [2, 7] [2, 7, 23, 29, 33, 24000, 24001, 24002, 30000, 30001, 30002, 34000, 34001, 34002] f7b2))
def f7r5o0 : AI := ⟨none, (.load 21 4 true (.t 1))⟩
def f7r5o1 : AI := ⟨none, (.call (some 22) 23 [(.v (.k (.c (.int .i64 0))))])⟩
def f7r5o2 : AI := ⟨none, (.call (some 23) 15 [(.t 21), (.v (.k (.c (.int .i64 0)))), (.t 22)])⟩
def f7r5o3 : AI := ⟨none, (.mov 20 (.t 23))⟩
def f7r5o4 : AI := ⟨none, (.extr 24 (.t 20) 0)⟩
def f7r5o5 : AI := ⟨none, (.extr 25 (.t 20) 1)⟩
def f7r5o6 : AI := ⟨none, (.alloc 5 27 [(.list 0 (some true) []), (.list 0 (some true) []), (.int .i64 0), (.bool false)])⟩
def f7r5o7 : AI := ⟨none, (.store 4 (.t 5) (.t 24))⟩
def f7r5o8 : AI := ⟨none, (.mov 6 (.t 25))⟩
def f7r5 : List AI := [f7r5o0, f7r5o1, f7r5o2, f7r5o3, f7r5o4, f7r5o5, f7r5o6, f7r5o7, f7r5o8]
theorem utf7r5 : treeOf f7r5 [[], [], [0, 1, 1], [2], [3], [3], [], [6, 4, 2, 0, 1, 2, 3, 4, 6], [5, 7, 0, 1, 2, 3, 4, 5, 6, 7]] = (.one f7r5o6 (.one f7r5o0 (.one f7r5o1 (.one f7r5o2 (.one f7r5o3 (.one f7r5o4 (.alt (.one f7r5o5 (.one f7r5o7 (.one f7r5o8 .done))) (.alt (.one f7r5o7 (.one f7r5o5 (.one f7r5o8 .done))) .top)))))))) := by kernel_rfl
def f7b6 : AQ := (.seq (.tree f7r5 [[], [], [0, 1, 1], [2], [3], [3], [], [6, 4, 2, 0, 1, 2, 3, 4, 6], [5, 7, 0, 1, 2, 3, 4, 5, 6, 7]]) (.keep [2, 5] [2, 5, 23, 29, 33, 24000, 24001, 24002, 30000, 30001, 30002, 34000, 34001, 34002] f7b4))
def f7r7 : List AI := [⟨none, (.build 19 [(.list 0 (some true) []), (.list 0 (some true) []), (.int .i64 0), (.bool false)] [])⟩, ⟨none, (.store 4 (.t 2) (.t 19))⟩, ⟨none, (.mov 3 (.v (.k (.c (.int .i64 6)))))⟩]
def f7b8 : AQ := (.seq (.region f7r7) .ret)
def f7b9 : AQ := (.cond (.t 18) f7b8 .skip)
def f7r10 : List AI := [⟨none, (.faddr 15 0 (.t 1))⟩, ⟨none, (.load 16 1 false (.t 15))⟩, ⟨none, (.len 17 (.t 16))⟩, ⟨none, (.bin 18 .lss (.t 17) (.v (.k (.c (.int .i64 3)))))⟩]
def f7b11 : AQ := (.seq (.region f7r10) f7b9)
def f7b12 : AQ := (.seq f7b11 f7b6)
def f7r13 : List AI := [⟨none, (.build 13 [(.list 0 (some true) []), (.list 0 (some true) []), (.int .i64 0), (.bool false)] [])⟩, ⟨none, (.mov 14 (.t 4))⟩, ⟨none, (.store 4 (.t 2) (.t 13))⟩, ⟨none, (.mov 3 (.t 14))⟩]
def f7b14 : AQ := (.seq (.region f7r13) .ret)
def f7b15 : AQ := (.cond (.t 12) f7b14 .skip)
def f7r16 : List AI := [⟨none, (.mov 11 (.t 4))⟩, ⟨none, (.bin 12 .neq (.t 11) (.v (.k (.c (.int .i64 0)))))⟩]
def f7b17 : AQ := (.seq (.region f7r16) f7b15)
def f7b18 : AQ := (.seq f7b17 f7b12)
def f7r19 : List AI := [⟨none, (.load 9 4 true (.t 1))⟩, ⟨none, (.call (some 10) 22 [(.t 9)])⟩, ⟨none, (.mov 4 (.t 10))⟩]
def f7b20 : AQ := (.seq (.region f7r19) f7b18)
def f7r21 : List AI := [⟨none, (.box 1 27 (.t 0))⟩, ⟨none, (.alloc 2 27 [(.list 0 (some true) []), (.list 0 (some true) []), (.int .i64 0), (.bool false)])⟩, ⟨none, (.mov 3 (.v (.k (.c (.int .i64 0)))))⟩]
def f7b22 : AQ := (.seq (.region f7r21) f7b20)
def f7 : AQ := f7b22
theorem hf7 : cFunc Tryz.prog 7 = some ⟨36, f7.erase, [(RX.cell 2 4 true), (RX.t 3)]⟩ := by kernel_rfl
theorem okf7 : f7.ok = true := by kernel_rfl
def f8r1 : List AI := [⟨none, (.load 133 4 true (.t 12))⟩, ⟨none, (.call (some 134) 24 [(.t 133)])⟩, ⟨none, (.extr 135 (.t 134) 0)⟩, ⟨none, (.extr 136 (.t 134) 1)⟩, ⟨none, (.store 4 (.t 4) (.t 135))⟩, ⟨none, (.mov 5 (.t 136))⟩]
def f8b2 : AQ := (.seq (.region f8r1) .ret)
def f8r3o0 : AI := ⟨none, (.load 125 4 true (.t 12))⟩
def f8r3o1 : AI := ⟨none, (.mov 126 (.t 11))⟩
def f8r3o2 : AI := ⟨none, (.bin 127 .sub (.v (.k (.c (.int .i64 1)))) (.t 126))⟩
def f8r3o3 : AI := ⟨none, (.mov 128 (.t 10))⟩
def f8r3o4 : AI := ⟨none, (.call (some 129) 23 [(.t 128)])⟩
def f8r3o5 : AI := ⟨none, (.call (some 130) 15 [(.t 125), (.t 127), (.t 129)])⟩
def f8r3o6 : AI := ⟨none, (.mov 124 (.t 130))⟩
def f8r3o7 : AI := ⟨none, (.extr 131 (.t 124) 0)⟩
def f8r3o8 : AI := ⟨none, (.extr 132 (.t 124) 1)⟩
def f8r3o9 : AI := ⟨none, (.store 4 (.t 12) (.t 131))⟩
def f8r3 : List AI := [f8r3o0, f8r3o1, f8r3o2, f8r3o3, f8r3o4, f8r3o5, f8r3o6, f8r3o7, f8r3o8, f8r3o9]
theorem utf8r3 : treeOf f8r3 [[], [], [1], [], [3], [0, 2, 4, 4], [5], [6], [6], [7, 5, 0, 1, 2, 3, 4, 5, 6, 7]] = (.one f8r3o0 (.one f8r3o1 (.one f8r3o2 (.one f8r3o3 (.one f8r3o4 (.one f8r3o5 (.one f8r3o6 (.one f8r3o7 (.alt (.one f8r3o8 (.one f8r3o9 .done)) (.alt (.one f8r3o9 (.one f8r3o8 .done)) .top)))))))))) := by kernel_rfl
def f8b4 : AQ := (.seq (.tree f8r3 [[], [], [1], [], [3], [0, 2, 4, 4], [5], [6], [6], [7, 5, 0, 1, 2, 3, 4, 5, 6, 7]]) (.keep [4, 12] [4, 12, 108, 117, 130, 134, 109000, 109001, 109002, 118000, 118001, 118002, 131000, 131001, 131002, 135000, 135001, 135002] f8b2))
def f8r5 : List AI := [⟨none, (.load 122 4 true (.t 12))⟩, ⟨none, (.mov 123 (.t 7))⟩, ⟨none, (.store 4 (.t 4) (.t 122))⟩, ⟨none, (.mov 5 (.t 123))⟩]
def f8b6 : AQ := (.seq (.region f8r5) .ret)
def f8b7 : AQ := (.cond (.t 121) f8b6 .skip)
def f8r8 : List AI := [⟨none, (.mov 120 (.t 7))⟩, ⟨none, (.bin 121 .neq (.t 120) (.v (.k (.c (.int .i64 0)))))⟩]
def f8b9 : AQ := (.seq (.region f8r8) f8b7)
def f8b10 : AQ := (.seq f8b9 f8b4)
def f8r11 : List AI := [⟨none, (.load 116 4 true (.t 12))⟩, ⟨none, (.call (some 117) 24 [(.t 116)])⟩, ⟨none, (.mov 115 (.t 117))⟩, ⟨none, (.extr 118 (.t 115) 0)⟩, ⟨none, (.extr 119 (.t 115) 1)⟩, ⟨none, (.store 4 (.t 12) (.t 118))⟩, ⟨none, (.mov 7 (.t 119))⟩]
def f8b12 : AQ := (.seq (.region f8r11) f8b10)
def f8r13 : List AI := [⟨none, (.mov 59 (.t 13))⟩, ⟨none, (.bin 60 .add (.t 59) (.v (.k (.c (.int .i64 1)))))⟩, ⟨none, (.mov 13 (.t 60))⟩]
def f8r14 : List AI := [⟨none, (.load 113 4 true (.t 12))⟩, ⟨none, (.mov 114 (.t 7))⟩, ⟨none, (.store 4 (.t 4) (.t 113))⟩, ⟨none, (.mov 5 (.t 114))⟩]
def f8b15 : AQ := (.seq (.region f8r14) .ret)
def f8b16 : AQ := (.cond (.t 112) f8b15 .skip)
def f8r17 : List AI := [⟨none, (.mov 111 (.t 7))⟩, ⟨none, (.bin 112 .neq (.t 111) (.v (.k (.c (.int .i64 0)))))⟩]
def f8b18 : AQ := (.seq (.region f8r17) f8b16)
def f8r19 : List AI := [⟨none, (.load 104 4 true (.t 12))⟩, ⟨none, (.mov 105 (.t 13))⟩, ⟨none, (.bin 106 .add (.v (.k (.c (.int .i64 2)))) (.t 105))⟩, ⟨none, (.mov 107 (.t 14))⟩, ⟨none, (.call (some 108) 15 [(.t 104), (.t 106), (.t 107)])⟩, ⟨none, (.mov 103 (.t 108))⟩, ⟨none, (.extr 109 (.t 103) 0)⟩, ⟨none, (.extr 110 (.t 103) 1)⟩, ⟨none, (.store 4 (.t 12) (.t 109))⟩, ⟨none, (.mov 7 (.t 110))⟩]
def f8b20 : AQ := (.seq (.region f8r19) f8b18)
def f8r21 : List AI := [⟨none, (.mov 73 (.t 15))⟩, ⟨none, (.bin 74 .add (.t 73) (.v (.k (.c (.int .i64 1)))))⟩, ⟨none, (.mov 15 (.t 74))⟩]
def f8r22 : List AI := [⟨none, (.mov 78 (.t 14))⟩, ⟨none, (.faddr 79 0 (.t 2))⟩, ⟨none, (.load 80 1 false (.t 79))⟩, ⟨none, (.mov 81 (.t 13))⟩, ⟨none, (.bin 82 .add (.v (.k (.c (.int .i64 2)))) (.t 81))⟩, ⟨none, (.iaddr 83 1 (.t 80) (.t 82))⟩, ⟨none, (.load 84 1 false (.t 83))⟩, ⟨none, (.mov 85 (.t 15))⟩, ⟨none, (.bin 86 .rem (.t 85) (.v (.k (.c (.int .i64 16)))))⟩, ⟨none, (.mov 87 (.t 15))⟩, ⟨none, (.bin 88 .rem (.t 87) (.v (.k (.c (.int .i64 16)))))⟩, ⟨none, (.bin 89 .add (.t 88) (.v (.k (.c (.int .i64 1)))))⟩, ⟨none, (.slstr 90 (.t 84) (some (.t 86)) (some (.t 89)))⟩, ⟨none, (.bin 91 .add (.t 78) (.t 90))⟩, ⟨none, (.mov 14 (.t 91))⟩]
def f8r23 : List AI := [⟨none, (.mov 92 (.t 14))⟩, ⟨none, (.mov 93 (.t 9))⟩, ⟨none, (.mov 94 (.t 15))⟩, ⟨none, (.mov 95 (.t 8))⟩, ⟨none, (.bin 96 .sub (.t 94) (.t 95))⟩, ⟨none, (.mov 97 (.t 15))⟩, ⟨none, (.mov 98 (.t 8))⟩, ⟨none, (.bin 99 .sub (.t 97) (.t 98))⟩, ⟨none, (.bin 100 .add (.t 99) (.v (.k (.c (.int .i64 1)))))⟩, ⟨none, (.slstr 101 (.t 93) (some (.t 96)) (some (.t 100)))⟩, ⟨none, (.bin 102 .add (.t 92) (.t 101))⟩, ⟨none, (.mov 14 (.t 102))⟩]
def f8b24 : AQ := (.cond (.t 77) (.region f8r22) (.region f8r23))
def f8r25 : List AI := [⟨none, (.mov 75 (.t 15))⟩, ⟨none, (.mov 76 (.t 8))⟩, ⟨none, (.bin 77 .lss (.t 75) (.t 76))⟩]
def f8b26 : AQ := (.seq (.region f8r25) f8b24)
def f8b27 : AQ := (.block 3 f8b26)
def f8b28 : AQ := (.seq f8b27 (.region f8r21))
def f8b29 : AQ := (.cond (.t 72) .skip (.exit 2))
def f8r30 : List AI := [⟨none, (.mov 63 (.t 15))⟩, ⟨none, (.mov 64 (.t 13))⟩, ⟨none, (.bin 65 .mul (.v (.k (.c (.int .i64 16)))) (.t 64))⟩, ⟨none, (.bin 66 .add (.t 65) (.v (.k (.c (.int .i64 16)))))⟩, ⟨none, (.bin 67 .lss (.t 63) (.t 66))⟩, ⟨none, (.mov 68 (.t 67))⟩, ⟨(some (68, true)), (.mov 69 (.t 15))⟩, ⟨(some (68, true)), (.mov 70 (.t 10))⟩, ⟨(some (68, true)), (.bin 71 .lss (.t 69) (.t 70))⟩, ⟨none, (.pick 72 (.t 68) (.t 71) (.v (.k (.c (.bool false)))))⟩]
def f8b31 : AQ := (.seq (.region f8r30) f8b29)
def f8b32 : AQ := (.seq f8b31 f8b28)
def f8l33 : AQ := .loop [2, 4, 8, 9, 10, 11, 12, 13, 14, 15] [2, 4, 12, 108, 117, 130, 134, 109000, 109001, 109002, 118000, 118001, 118002, 131000, 131001, 131002, 135000, 135001, 135002] f8b32
theorem uf8l33 (P ts os Q) : awl P f8l33 Q ts os = awl P (.loop [2, 4, 8, 9, 10, 11, 12, 13, 14, 15] [2, 4, 12, 108, 117, 130, 134, 109000, 109001, 109002, 118000, 118001, 118002, 131000, 131001, 131002, 135000, 135001, 135002] f8b32) Q ts os := id rfl
def f8b34 : AQ := (.block 2 f8l33)
def f8r35 : List AI := [⟨none, (.mov 61 (.t 13))⟩, ⟨none, (.bin 62 .mul (.v (.k (.c (.int .i64 16)))) (.t 61))⟩, ⟨none, (.mov 15 (.t 62))⟩]
def f8b36 : AQ := (.seq (.region f8r35) f8b34)
def f8b37 : AQ := (.seq f8b36 f8b20)
def f8r38 : List AI := [⟨none, (.mov 14 (.v (.k (.c (.str [])))))⟩]
def f8b39 : AQ := (.seq (.region f8r38) f8b37)
def f8b40 : AQ := (.block 1 f8b39)
def f8b41 : AQ := (.seq f8b40 (.region f8r13))
def f8b42 : AQ := (.cond (.t 58) .skip (.exit 0))
def f8r43 : List AI := [⟨none, (.mov 55 (.t 13))⟩, ⟨none, (.bin 56 .mul (.v (.k (.c (.int .i64 16)))) (.t 55))⟩, ⟨none, (.mov 57 (.t 10))⟩, ⟨none, (.bin 58 .lss (.t 56) (.t 57))⟩]
def f8b44 : AQ := (.seq (.region f8r43) f8b42)
def f8b45 : AQ := (.seq f8b44 f8b41)
def f8l46 : AQ := .loop [2, 4, 8, 9, 10, 11, 12, 13] [2, 4, 12, 108, 117, 130, 134, 109000, 109001, 109002, 118000, 118001, 118002, 131000, 131001, 131002, 135000, 135001, 135002] f8b45
theorem uf8l46 (P ts os Q) : awl P f8l46 Q ts os = awl P (.loop [2, 4, 8, 9, 10, 11, 12, 13] [2, 4, 12, 108, 117, 130, 134, 109000, 109001, 109002, 118000, 118001, 118002, 131000, 131001, 131002, 135000, 135001, 135002] f8b45) Q ts os := id rfl
def f8b47 : AQ := (.block 0 f8l46)
def f8r48 : List AI := [⟨none, (.mov 53 (.t 8))⟩, ⟨none, (.bin 54 .quo (.t 53) (.v (.k (.c (.int .i64 16)))))⟩, ⟨none, (.mov 13 (.t 54))⟩]
def f8b49 : AQ := (.seq (.region f8r48) f8b47)
def f8b50 : AQ := (.seq f8b49 f8b12)
def f8r51 : List AI := [⟨none, (.load 52 4 true (.t 2))⟩, ⟨none, (.alloc 12 27 [(.list 0 (some true) []), (.list 0 (some true) []), (.int .i64 0), (.bool false)])⟩, ⟨none, (.store 4 (.t 12) (.t 52))⟩]
def f8b52 : AQ := (.seq (.region f8r51) f8b50)
def f8r53 : List AI := [⟨none, (.load 50 4 true (.t 2))⟩, ⟨none, (.call (some 51) 27 [(.t 50)])⟩, ⟨none, (.mov 11 (.t 51))⟩]
def f8b54 : AQ := (.seq (.region f8r53) f8b52)
def f8r55 : List AI := [⟨none, (.build 49 [(.list 0 (some true) []), (.list 0 (some true) []), (.int .i64 0), (.bool false)] [])⟩, ⟨none, (.store 4 (.t 4) (.t 49))⟩, ⟨none, (.mov 5 (.v (.k (.c (.int .i64 6)))))⟩]
def f8b56 : AQ := (.seq (.region f8r55) .ret)
def f8b57 : AQ := (.cond (.t 48) f8b56 .skip)
def f8r58 : List AI := [⟨none, (.mov 37 (.t 6))⟩, ⟨none, (.len 38 (.t 37))⟩, ⟨none, (.bin 39 .geq (.t 38) (.v (.k (.c (.int .i64 500)))))⟩, ⟨none, (.mov 40 (.t 39))⟩, ⟨(some (40, false)), (.mov 41 (.t 10))⟩, ⟨(some (40, false)), (.faddr 42 0 (.t 2))⟩, ⟨(some (40, false)), (.load 43 1 false (.t 42))⟩, ⟨(some (40, false)), (.len 44 (.t 43))⟩, ⟨(some (40, false)), (.bin 45 .sub (.t 44) (.v (.k (.c (.int .i64 2)))))⟩, ⟨(some (40, false)), (.bin 46 .mul (.v (.k (.c (.int .i64 16)))) (.t 45))⟩, ⟨(some (40, false)), (.bin 47 .gtr (.t 41) (.t 46))⟩, ⟨none, (.pick 48 (.t 40) (.v (.k (.c (.bool true)))) (.t 47))⟩]
def f8b59 : AQ := (.seq (.region f8r58) f8b57)
def f8b60 : AQ := (.seq f8b59 f8b54)
def f8r61 : List AI := [⟨none, (.mov 33 (.t 8))⟩, ⟨none, (.mov 34 (.t 9))⟩, ⟨none, (.lenS 35 (.t 34))⟩, ⟨none, (.bin 36 .add (.t 33) (.t 35))⟩, ⟨none, (.mov 10 (.t 36))⟩]
def f8b62 : AQ := (.seq (.region f8r61) f8b60)
def f8r63 : List AI := [⟨none, (.mov 31 (.t 1))⟩, ⟨none, (.call (some 32) 26 [(.t 31)])⟩, ⟨none, (.mov 9 (.t 32))⟩]
def f8b64 : AQ := (.seq (.region f8r63) f8b62)
def f8r65 : List AI := [⟨none, (.mov 29 (.t 6))⟩, ⟨none, (.call (some 30) 25 [(.t 29)])⟩, ⟨none, (.mov 8 (.t 30))⟩]
def f8b66 : AQ := (.seq (.region f8r65) f8b64)
def f8r67 : List AI := [⟨none, (.build 28 [(.list 0 (some true) []), (.list 0 (some true) []), (.int .i64 0), (.bool false)] [])⟩, ⟨none, (.store 4 (.t 4) (.t 28))⟩, ⟨none, (.mov 5 (.v (.k (.c (.int .i64 1)))))⟩]
def f8b68 : AQ := (.seq (.region f8r67) .ret)
def f8b69 : AQ := (.cond (.t 27) f8b68 .skip)
def f8r70 : List AI := [⟨none, (.mov 25 (.t 1))⟩, ⟨none, (.lenS 26 (.t 25))⟩, ⟨none, (.bin 27 .gtr (.t 26) (.v (.k (.c (.int .i64 2000)))))⟩]
def f8b71 : AQ := (.seq (.region f8r70) f8b69)
def f8b72 : AQ := (.seq f8b71 f8b66)
def f8r73 : List AI := [⟨none, (.build 23 [(.list 0 (some true) []), (.list 0 (some true) []), (.int .i64 0), (.bool false)] [])⟩, ⟨none, (.mov 24 (.t 7))⟩, ⟨none, (.store 4 (.t 4) (.t 23))⟩, ⟨none, (.mov 5 (.t 24))⟩]
def f8b74 : AQ := (.seq (.region f8r73) .ret)
def f8b75 : AQ := (.cond (.t 22) f8b74 .skip)
def f8r76 : List AI := [⟨none, (.mov 21 (.t 7))⟩, ⟨none, (.bin 22 .neq (.t 21) (.v (.k (.c (.int .i64 0)))))⟩]
def f8b77 : AQ := (.seq (.region f8r76) f8b75)
def f8b78 : AQ := (.seq f8b77 f8b72)
def f8r79 : List AI := [⟨none, (.load 17 4 true (.t 2))⟩, ⟨none, (.call (some 18) 16 [(.t 17)])⟩, ⟨none, (.mov 16 (.t 18))⟩, ⟨none, (.extr 19 (.t 16) 0)⟩, ⟨none, (.extr 20 (.t 16) 1)⟩, ⟨none, (.mov 6 (.t 19))⟩, ⟨none, (.mov 7 (.t 20))⟩]
def f8b80 : AQ := (.seq (.region f8r79) f8b78)
def f8r81 : List AI := [⟨none, (.box 2 27 (.t 0))⟩, ⟨none, (.alloc 4 27 [(.list 0 (some true) []), (.list 0 (some true) []), (.int .i64 0), (.bool false)])⟩, ⟨none, (.mov 5 (.v (.k (.c (.int .i64 0)))))⟩]
def f8b82 : AQ := (.seq (.region f8r81) f8b80)
def f8 : AQ := f8b82
theorem hf8 : cFunc Tryz.prog 8 = some ⟨137, f8.erase, [(RX.cell 4 4 true), (RX.t 5)]⟩ := by kernel_rfl
theorem okf8 : f8.ok = true := by kernel_rfl
def f9r1 : List AI := [⟨none, (.load 94 4 true (.t 2))⟩, ⟨none, (.call (some 95) 31 [(.t 94)])⟩, ⟨none, (.extr 96 (.t 95) 0)⟩, ⟨none, (.extr 97 (.t 95) 1)⟩, ⟨none, (.store 4 (.t 4) (.t 96))⟩, ⟨none, (.mov 5 (.t 97))⟩]
def f9b2 : AQ := (.seq (.region f9r1) .ret)
def f9r3o0 : AI := ⟨none, (.load 84 4 true (.t 2))⟩
def f9r3o1 : AI := ⟨none, (.faddr 85 2 (.t 6))⟩
def f9r3o2 : AI := ⟨none, (.load 86 1 false (.t 85))⟩
def f9r3o3 : AI := ⟨none, (.bin 87 .sub (.v (.k (.c (.int .i64 1)))) (.t 86))⟩
def f9r3o4 : AI := ⟨none, (.mov 88 (.t 8))⟩
def f9r3o5 : AI := ⟨none, (.lenS 89 (.t 88))⟩
def f9r3o6 : AI := ⟨none, (.call (some 90) 32 [(.t 89)])⟩
def f9r3o7 : AI := ⟨none, (.call (some 91) 30 [(.t 84), (.t 87), (.t 90)])⟩
def f9r3o8 : AI := ⟨none, (.mov 83 (.t 91))⟩
def f9r3o9 : AI := ⟨none, (.extr 92 (.t 83) 0)⟩
def f9r3o10 : AI := ⟨none, (.extr 93 (.t 83) 1)⟩
def f9r3o11 : AI := ⟨none, (.store 4 (.t 2) (.t 92))⟩
def f9r3 : List AI := [f9r3o0, f9r3o1, f9r3o2, f9r3o3, f9r3o4, f9r3o5, f9r3o6, f9r3o7, f9r3o8, f9r3o9, f9r3o10, f9r3o11]
theorem utf9r3 : treeOf f9r3 [[], [], [1], [2], [], [4], [5], [0, 3, 6, 6], [7], [8], [8], [9, 7, 0, 1, 2, 3, 4, 5, 6, 7, 8, 9]] = (.one f9r3o0 (.one f9r3o1 (.one f9r3o2 (.one f9r3o3 (.one f9r3o4 (.one f9r3o5 (.one f9r3o6 (.one f9r3o7 (.one f9r3o8 (.one f9r3o9 (.alt (.one f9r3o10 (.one f9r3o11 .done)) (.alt (.one f9r3o11 (.one f9r3o10 .done)) .top)))))))))))) := by kernel_rfl
def f9b4 : AQ := (.seq (.tree f9r3 [[], [], [1], [2], [], [4], [5], [0, 3, 6, 6], [7], [8], [8], [9, 7, 0, 1, 2, 3, 4, 5, 6, 7, 8, 9]]) (.keep [2, 4] [2, 4, 71, 76, 91, 95, 72000, 72001, 72002, 77000, 77001, 77002, 92000, 92001, 92002, 96000, 96001, 96002] f9b2))
def f9r5 : List AI := [⟨none, (.load 81 4 true (.t 2))⟩, ⟨none, (.mov 82 (.t 7))⟩, ⟨none, (.store 4 (.t 4) (.t 81))⟩, ⟨none, (.mov 5 (.t 82))⟩]
def f9b6 : AQ := (.seq (.region f9r5) .ret)
def f9b7 : AQ := (.cond (.t 80) f9b6 .skip)
def f9r8 : List AI := [⟨none, (.mov 79 (.t 7))⟩, ⟨none, (.bin 80 .neq (.t 79) (.v (.k (.c (.int .i64 0)))))⟩]
def f9b9 : AQ := (.seq (.region f9r8) f9b7)
def f9b10 : AQ := (.seq f9b9 f9b4)
def f9r11 : List AI := [⟨none, (.load 75 4 true (.t 2))⟩, ⟨none, (.call (some 76) 31 [(.t 75)])⟩, ⟨none, (.mov 74 (.t 76))⟩, ⟨none, (.extr 77 (.t 74) 0)⟩, ⟨none, (.extr 78 (.t 74) 1)⟩, ⟨none, (.store 4 (.t 2) (.t 77))⟩, ⟨none, (.mov 7 (.t 78))⟩]
def f9b12 : AQ := (.seq (.region f9r11) f9b10)
def f9r13 : List AI := [⟨none, (.mov 55 (.t 9))⟩, ⟨none, (.bin 56 .add (.t 55) (.v (.k (.c (.int .i64 1)))))⟩, ⟨none, (.mov 9 (.t 56))⟩]
def f9r14o0 : AI := ⟨none, (.load 58 4 true (.t 2))⟩
def f9r14o1 : AI := ⟨none, (.mov 59 (.t 9))⟩
def f9r14o2 : AI := ⟨none, (.bin 60 .add (.v (.k (.c (.int .i64 2)))) (.t 59))⟩
def f9r14o3 : AI := ⟨none, (.mov 61 (.t 8))⟩
def f9r14o4 : AI := ⟨none, (.mov 62 (.t 9))⟩
def f9r14o5 : AI := ⟨none, (.bin 63 .mul (.t 62) (.v (.k (.c (.int .i64 16)))))⟩
def f9r14o6 : AI := ⟨none, (.mov 64 (.t 9))⟩
def f9r14o7 : AI := ⟨none, (.bin 65 .add (.t 64) (.v (.k (.c (.int .i64 1)))))⟩
def f9r14o8 : AI := ⟨none, (.bin 66 .mul (.t 65) (.v (.k (.c (.int .i64 16)))))⟩
def f9r14o9 : AI := ⟨none, (.mov 67 (.t 8))⟩
def f9r14o10 : AI := ⟨none, (.lenS 68 (.t 67))⟩
def f9r14o11 : AI := ⟨none, (.minmax 69 false (.t 66) [(.t 68)])⟩
def f9r14o12 : AI := ⟨none, (.slstr 70 (.t 61) (some (.t 63)) (some (.t 69)))⟩
def f9r14o13 : AI := ⟨none, (.call (some 71) 30 [(.t 58), (.t 60), (.t 70)])⟩
def f9r14o14 : AI := ⟨none, (.mov 57 (.t 71))⟩
def f9r14o15 : AI := ⟨none, (.extr 72 (.t 57) 0)⟩
def f9r14o16 : AI := ⟨none, (.extr 73 (.t 57) 1)⟩
def f9r14o17 : AI := ⟨none, (.store 4 (.t 2) (.t 72))⟩
def f9r14 : List AI := [f9r14o0, f9r14o1, f9r14o2, f9r14o3, f9r14o4, f9r14o5, f9r14o6, f9r14o7, f9r14o8, f9r14o9, f9r14o10, f9r14o11, f9r14o12, f9r14o13, f9r14o14, f9r14o15, f9r14o16, f9r14o17]
theorem utf9r14 : treeOf f9r14 [[], [], [1], [], [], [4], [], [6], [7], [], [9], [8, 10], [3, 5, 11], [0, 2, 12], [13], [14], [14], [15, 13, 0, 1, 2, 3, 4, 5, 6, 7, 8, 9, 10, 11, 12, 13, 14, 15]] = (.one f9r14o0 (.one f9r14o1 (.one f9r14o2 (.one f9r14o3 (.one f9r14o4 (.one f9r14o5 (.one f9r14o6 (.one f9r14o7 (.one f9r14o8 (.one f9r14o9 (.one f9r14o10 (.one f9r14o11 (.one f9r14o12 (.one f9r14o13 (.one f9r14o14 (.one f9r14o15 (.alt (.one f9r14o16 (.one f9r14o17 .done)) (.alt (.one f9r14o17 (.one f9r14o16 .done)) .top)))))))))))))))))) := by kernel_rfl
def f9b15 : AQ := (.block 2 (.tree f9r14 [[], [], [1], [], [], [4], [], [6], [7], [], [9], [8, 10], [3, 5, 11], [0, 2, 12], [13], [14], [14], [15, 13, 0, 1, 2, 3, 4, 5, 6, 7, 8, 9, 10, 11, 12, 13, 14, 15]]))
def f9b16 : AQ := (.seq f9b15 (.region f9r13))
def f9b17 : AQ := (.cond (.t 54) .skip (.exit 1))
def f9r18 : List AI := [⟨none, (.mov 50 (.t 9))⟩, ⟨none, (.bin 51 .mul (.t 50) (.v (.k (.c (.int .i64 16)))))⟩, ⟨none, (.mov 52 (.t 8))⟩, ⟨none, (.lenS 53 (.t 52))⟩, ⟨none, (.bin 54 .lss (.t 51) (.t 53))⟩]
def f9b19 : AQ := (.seq (.region f9r18) f9b17)
def f9b20 : AQ := (.seq f9b19 f9b16)
def f9l21 : AQ := .loop [2, 4, 6, 8, 9] [2, 4, 6, 12, 71, 76, 91, 95, 13000, 13001, 13002, 72000, 72001, 72002, 77000, 77001, 77002, 92000, 92001, 92002, 96000, 96001, 96002] f9b20
theorem uf9l21 (P ts os Q) : awl P f9l21 Q ts os = awl P (.loop [2, 4, 6, 8, 9] [2, 4, 6, 12, 71, 76, 91, 95, 13000, 13001, 13002, 72000, 72001, 72002, 77000, 77001, 77002, 92000, 92001, 92002, 96000, 96001, 96002] f9b20) Q ts os := id rfl
def f9b22 : AQ := (.block 1 f9l21)
def f9r23 : List AI := [⟨none, (.faddr 46 1 (.t 6))⟩, ⟨none, (.load 47 1 false (.t 46))⟩, ⟨none, (.lenS 48 (.t 47))⟩, ⟨none, (.bin 49 .quo (.t 48) (.v (.k (.c (.int .i64 16)))))⟩, ⟨none, (.mov 9 (.t 49))⟩]
def f9b24 : AQ := (.seq (.region f9r23) f9b22)
def f9b25 : AQ := (.seq f9b24 f9b12)
def f9r26 : List AI := [⟨none, (.build 23 [(.list 0 (some true) []), (.list 0 (some true) []), (.int .i64 0), (.bool false)] [])⟩, ⟨none, (.mov 24 (.t 7))⟩, ⟨none, (.store 4 (.t 4) (.t 23))⟩, ⟨none, (.mov 5 (.t 24))⟩]
def f9b27 : AQ := (.seq (.region f9r26) .ret)
def f9r28 : List AI := [⟨none, (.build 29 [(.list 0 (some true) []), (.list 0 (some true) []), (.int .i64 0), (.bool false)] [])⟩, ⟨none, (.store 4 (.t 4) (.t 29))⟩, ⟨none, (.mov 5 (.v (.k (.c (.int .i64 1)))))⟩]
def f9b29 : AQ := (.seq (.region f9r28) .ret)
def f9r30 : List AI := [⟨none, (.build 45 [(.list 0 (some true) []), (.list 0 (some true) []), (.int .i64 0), (.bool false)] [])⟩, ⟨none, (.store 4 (.t 4) (.t 45))⟩, ⟨none, (.mov 5 (.v (.k (.c (.int .i64 6)))))⟩]
def f9b31 : AQ := (.seq (.region f9r30) .ret)
def f9b32 : AQ := (.cond (.t 30) f9b31 .skip)
def f9r33 : List AI := [⟨none, (.faddr 31 0 (.t 6))⟩, ⟨none, (.load 32 1 false (.t 31))⟩, ⟨none, (.len 33 (.t 32))⟩, ⟨none, (.bin 34 .eql (.t 33) (.v (.k (.c (.int .i64 500)))))⟩, ⟨none, (.mov 35 (.t 34))⟩, ⟨(some (35, false)), (.mov 36 (.t 8))⟩, ⟨(some (35, false)), (.lenS 37 (.t 36))⟩, ⟨(some (35, false)), (.faddr 38 0 (.t 2))⟩, ⟨(some (35, false)), (.load 39 1 false (.t 38))⟩, ⟨(some (35, false)), (.len 40 (.t 39))⟩, ⟨(some (35, false)), (.bin 41 .sub (.t 40) (.v (.k (.c (.int .i64 2)))))⟩, ⟨(some (35, false)), (.bin 42 .mul (.t 41) (.v (.k (.c (.int .i64 16)))))⟩, ⟨(some (35, false)), (.bin 43 .gtr (.t 37) (.t 42))⟩, ⟨none, (.pick 44 (.t 35) (.v (.k (.c (.bool true)))) (.t 43))⟩, ⟨none, (.mov 30 (.t 44))⟩]
def f9b34 : AQ := (.seq (.region f9r33) f9b32)
def f9b35 : AQ := (.cond (.t 25) f9b29 f9b34)
def f9r36 : List AI := [⟨none, (.mov 26 (.t 1))⟩, ⟨none, (.lenS 27 (.t 26))⟩, ⟨none, (.bin 28 .gtr (.t 27) (.v (.k (.c (.int .i64 2000)))))⟩, ⟨none, (.mov 25 (.t 28))⟩]
def f9b37 : AQ := (.seq (.region f9r36) f9b35)
def f9b38 : AQ := (.cond (.t 20) f9b27 f9b37)
def f9r39 : List AI := [⟨none, (.mov 21 (.t 7))⟩, ⟨none, (.bin 22 .neq (.t 21) (.v (.k (.c (.int .i64 0)))))⟩, ⟨none, (.mov 20 (.t 22))⟩]
def f9b40 : AQ := (.seq (.region f9r39) f9b38)
def f9b41 : AQ := (.block 0 f9b40)
def f9b42 : AQ := (.seq f9b41 f9b25)
def f9r43 : List AI := [⟨none, (.faddr 15 1 (.t 6))⟩, ⟨none, (.load 16 1 false (.t 15))⟩, ⟨none, (.mov 17 (.t 1))⟩, ⟨none, (.call (some 18) 29 [(.t 17)])⟩, ⟨none, (.bin 19 .add (.t 16) (.t 18))⟩, ⟨none, (.mov 8 (.t 19))⟩]
def f9b44 : AQ := (.seq (.draw f9r43 [[], [0], [], [2], [1, 3], [4, 3, 0, 1, 2, 3, 4]]) f9b42)
def f9r45 : List AI := [⟨none, (.load 11 4 true (.t 2))⟩, ⟨none, (.call (some 12) 28 [(.t 11)])⟩, ⟨none, (.mov 10 (.t 12))⟩, ⟨none, (.extr 13 (.t 10) 0)⟩, ⟨none, (.extr 14 (.t 10) 1)⟩, ⟨none, (.alloc 6 53 [(.list 0 (some true) []), (.str []), (.int .i64 0)])⟩, ⟨none, (.store 3 (.t 6) (.t 13))⟩, ⟨none, (.mov 7 (.t 14))⟩]
def f9b46 : AQ := (.seq (.region f9r45) f9b44)
def f9r47 : List AI := [⟨none, (.box 2 27 (.t 0))⟩, ⟨none, (.alloc 4 27 [(.list 0 (some true) []), (.list 0 (some true) []), (.int .i64 0), (.bool false)])⟩, ⟨none, (.mov 5 (.v (.k (.c (.int .i64 0)))))⟩]
def f9b48 : AQ := (.seq (.region f9r47) f9b46)
def f9 : AQ := f9b48
theorem hf9 : cFunc Tryz.prog 9 = some ⟨98, f9.erase, [(RX.cell 4 4 true), (RX.t 5)]⟩ := by kernel_rfl
theorem okf9 : f9.ok = true := by kernel_rfl
def f10r1 : List AI := [⟨none, (.mov 4 (.v (.k (.c (.bool true)))))⟩]
def f10b2 : AQ := (.seq (.region f10r1) .ret)
def f10r3 : List AI := [⟨none, (.mov 60 (.t 6))⟩, ⟨none, (.bin 61 .add (.t 60) (.v (.k (.c (.int .i64 1)))))⟩, ⟨none, (.mov 6 (.t 61))⟩]
def f10r4 : List AI := [⟨none, (.mov 4 (.v (.k (.c (.bool false)))))⟩]
def f10b5 : AQ := (.seq (.region f10r4) .ret)
def f10b6 : AQ := (.cond (.t 72) f10b5 .skip)
def f10r7 : List AI := [⟨none, (.faddr 62 1 (.t 2))⟩, ⟨none, (.load 63 1 false (.t 62))⟩, ⟨none, (.mov 64 (.t 6))⟩, ⟨none, (.iaddr 65 2 (.t 63) (.t 64))⟩, ⟨none, (.load 66 2 true (.t 65))⟩, ⟨none, (.faddr 67 1 (.t 3))⟩, ⟨none, (.load 68 1 false (.t 67))⟩, ⟨none, (.mov 69 (.t 6))⟩, ⟨none, (.iaddr 70 2 (.t 68) (.t 69))⟩, ⟨none, (.load 71 2 true (.t 70))⟩, ⟨none, (.eqAgg 72 true [.int, .str] (.t 66) (.t 71))⟩]
def f10b8 : AQ := (.seq (.draw f10r7 [[], [0], [], [1, 2], [3], [], [5], [], [6, 7], [8], [4, 9]]) f10b6)
def f10b9 : AQ := (.block 3 f10b8)
def f10b10 : AQ := (.seq f10b9 (.region f10r3))
def f10b11 : AQ := (.cond (.t 59) .skip (.exit 2))
def f10r12 : List AI := [⟨none, (.mov 55 (.t 6))⟩, ⟨none, (.faddr 56 1 (.t 2))⟩, ⟨none, (.load 57 1 false (.t 56))⟩, ⟨none, (.len 58 (.t 57))⟩, ⟨none, (.bin 59 .lss (.t 55) (.t 58))⟩]
def f10b13 : AQ := (.seq (.region f10r12) f10b11)
def f10b14 : AQ := (.seq f10b13 f10b10)
def f10l15 : AQ := .loop [2, 3, 6] [2, 3] f10b14
theorem uf10l15 (P ts os Q) : awl P f10l15 Q ts os = awl P (.loop [2, 3, 6] [2, 3] f10b14) Q ts os := id rfl
def f10b16 : AQ := (.block 2 f10l15)
def f10r17 : List AI := [⟨none, (.mov 6 (.v (.k (.c (.int .i64 0)))))⟩]
def f10b18 : AQ := (.seq (.region f10r17) f10b16)
def f10b19 : AQ := (.seq f10b18 f10b2)
def f10r20 : List AI := [⟨none, (.mov 42 (.t 5))⟩, ⟨none, (.bin 43 .add (.t 42) (.v (.k (.c (.int .i64 1)))))⟩, ⟨none, (.mov 5 (.t 43))⟩]
def f10r21 : List AI := [⟨none, (.mov 4 (.v (.k (.c (.bool false)))))⟩]
def f10b22 : AQ := (.seq (.region f10r21) .ret)
def f10b23 : AQ := (.cond (.t 54) f10b22 .skip)
def f10r24 : List AI := [⟨none, (.faddr 44 0 (.t 2))⟩, ⟨none, (.load 45 1 false (.t 44))⟩, ⟨none, (.mov 46 (.t 5))⟩, ⟨none, (.iaddr 47 1 (.t 45) (.t 46))⟩, ⟨none, (.load 48 1 false (.t 47))⟩, ⟨none, (.faddr 49 0 (.t 3))⟩, ⟨none, (.load 50 1 false (.t 49))⟩, ⟨none, (.mov 51 (.t 5))⟩, ⟨none, (.iaddr 52 1 (.t 50) (.t 51))⟩, ⟨none, (.load 53 1 false (.t 52))⟩, ⟨none, (.bin 54 .neq (.t 48) (.t 53))⟩]
def f10b25 : AQ := (.seq (.draw f10r24 [[], [0], [], [1, 2], [3], [], [5], [], [6, 7], [8], [4, 9]]) f10b23)
def f10b26 : AQ := (.block 1 f10b25)
def f10b27 : AQ := (.seq f10b26 (.region f10r20))
def f10b28 : AQ := (.cond (.t 41) .skip (.exit 0))
def f10r29 : List AI := [⟨none, (.mov 37 (.t 5))⟩, ⟨none, (.faddr 38 0 (.t 2))⟩, ⟨none, (.load 39 1 false (.t 38))⟩, ⟨none, (.len 40 (.t 39))⟩, ⟨none, (.bin 41 .lss (.t 37) (.t 40))⟩]
def f10b30 : AQ := (.seq (.region f10r29) f10b28)
def f10b31 : AQ := (.seq f10b30 f10b27)
def f10l32 : AQ := .loop [2, 3, 5] [2, 3] f10b31
theorem uf10l32 (P ts os Q) : awl P f10l32 Q ts os = awl P (.loop [2, 3, 5] [2, 3] f10b31) Q ts os := id rfl
def f10b33 : AQ := (.block 0 f10l32)
def f10r34 : List AI := [⟨none, (.mov 5 (.v (.k (.c (.int .i64 0)))))⟩]
def f10b35 : AQ := (.seq (.region f10r34) f10b33)
def f10b36 : AQ := (.seq f10b35 f10b19)
def f10r37 : List AI := [⟨none, (.mov 4 (.v (.k (.c (.bool false)))))⟩]
def f10b38 : AQ := (.seq (.region f10r37) .ret)
def f10b39 : AQ := (.cond (.t 36) f10b38 .skip)
def f10r40 : List AI := [⟨none, (.faddr 7 0 (.t 2))⟩, ⟨none, (.load 8 1 false (.t 7))⟩, ⟨none, (.len 9 (.t 8))⟩, ⟨none, (.faddr 10 0 (.t 3))⟩, ⟨none, (.load 11 1 false (.t 10))⟩, ⟨none, (.len 12 (.t 11))⟩, ⟨none, (.bin 13 .neq (.t 9) (.t 12))⟩, ⟨none, (.mov 14 (.t 13))⟩, ⟨(some (14, false)), (.faddr 15 1 (.t 2))⟩, ⟨(some (14, false)), (.load 16 1 false (.t 15))⟩, ⟨(some (14, false)), (.len 17 (.t 16))⟩, ⟨(some (14, false)), (.faddr 18 1 (.t 3))⟩, ⟨(some (14, false)), (.load 19 1 false (.t 18))⟩, ⟨(some (14, false)), (.len 20 (.t 19))⟩, ⟨(some (14, false)), (.bin 21 .neq (.t 17) (.t 20))⟩, ⟨none, (.pick 22 (.t 14) (.v (.k (.c (.bool true)))) (.t 21))⟩, ⟨none, (.mov 23 (.t 22))⟩, ⟨(some (23, false)), (.faddr 24 2 (.t 2))⟩, ⟨(some (23, false)), (.load 25 1 false (.t 24))⟩, ⟨(some (23, false)), (.faddr 26 2 (.t 3))⟩, ⟨(some (23, false)), (.load 27 1 false (.t 26))⟩, ⟨(some (23, false)), (.bin 28 .neq (.t 25) (.t 27))⟩, ⟨none, (.pick 29 (.t 23) (.v (.k (.c (.bool true)))) (.t 28))⟩, ⟨none, (.mov 30 (.t 29))⟩, ⟨(some (30, false)), (.faddr 31 3 (.t 2))⟩, ⟨(some (30, false)), (.load 32 1 false (.t 31))⟩, ⟨(some (30, false)), (.faddr 33 3 (.t 3))⟩, ⟨(some (30, false)), (.load 34 1 false (.t 33))⟩, ⟨(some (30, false)), (.binB 35 true (.t 32) (.t 34))⟩, ⟨none, (.pick 36 (.t 30) (.v (.k (.c (.bool true)))) (.t 35))⟩]
def f10b41 : AQ := (.seq (.region f10r40) f10b39)
def f10b42 : AQ := (.seq f10b41 f10b36)
def f10r43 : List AI := [⟨none, (.box 2 27 (.t 0))⟩, ⟨none, (.box 3 27 (.t 1))⟩, ⟨none, (.mov 4 (.v (.k (.c (.bool false)))))⟩]
def f10b44 : AQ := (.seq (.region f10r43) f10b42)
def f10 : AQ := f10b44
theorem hf10 : cFunc Tryz.prog 10 = some ⟨73, f10.erase, [(RX.t 4)]⟩ := by kernel_rfl
theorem okf10 : f10.ok = true := by kernel_rfl
def f11r1 : List AI := [⟨none, (.load 22 4 true (.t 2))⟩, ⟨none, (.store 4 (.t 4) (.t 22))⟩, ⟨none, (.mov 5 (.v (.k (.c (.int .i64 0)))))⟩]
def f11b2 : AQ := (.seq (.region f11r1) .ret)
def f11r3 : List AI := [⟨none, (.mov 20 (.t 1))⟩, ⟨none, (.faddr 21 2 (.t 2))⟩, ⟨none, (.store 1 (.t 21) (.t 20))⟩]
def f11b4 : AQ := (.seq (.region f11r3) f11b2)
def f11r5 : List AI := [⟨none, (.build 19 [(.list 0 (some true) []), (.list 0 (some true) []), (.int .i64 0), (.bool false)] [])⟩, ⟨none, (.store 4 (.t 4) (.t 19))⟩, ⟨none, (.mov 5 (.v (.k (.c (.int .i64 1)))))⟩]
def f11b6 : AQ := (.seq (.region f11r5) .ret)
def f11b7 : AQ := (.cond (.t 18) f11b6 .skip)
def f11r8 : List AI := [⟨none, (.mov 13 (.t 1))⟩, ⟨none, (.bin 14 .lss (.t 13) (.v (.k (.c (.int .i64 0)))))⟩, ⟨none, (.mov 15 (.t 14))⟩, ⟨(some (15, false)), (.mov 16 (.t 1))⟩, ⟨(some (15, false)), (.bin 17 .gtr (.t 16) (.v (.k (.c (.int .i64 512)))))⟩, ⟨none, (.pick 18 (.t 15) (.v (.k (.c (.bool true)))) (.t 17))⟩]
def f11b9 : AQ := (.seq (.region f11r8) f11b7)
def f11b10 : AQ := (.seq f11b9 f11b4)
def f11r11 : List AI := [⟨none, (.build 11 [(.list 0 (some true) []), (.list 0 (some true) []), (.int .i64 0), (.bool false)] [])⟩, ⟨none, (.mov 12 (.t 6))⟩, ⟨none, (.store 4 (.t 4) (.t 11))⟩, ⟨none, (.mov 5 (.t 12))⟩]
def f11b12 : AQ := (.seq (.region f11r11) .ret)
def f11b13 : AQ := (.cond (.t 10) f11b12 .skip)
def f11r14 : List AI := [⟨none, (.mov 9 (.t 6))⟩, ⟨none, (.bin 10 .neq (.t 9) (.v (.k (.c (.int .i64 0)))))⟩]
def f11b15 : AQ := (.seq (.region f11r14) f11b13)
def f11b16 : AQ := (.seq f11b15 f11b10)
def f11r17 : List AI := [⟨none, (.load 7 4 true (.t 2))⟩, ⟨none, (.call (some 8) 33 [(.t 7)])⟩, ⟨none, (.mov 6 (.t 8))⟩]
def f11b18 : AQ := (.seq (.region f11r17) f11b16)
def f11r19 : List AI := [⟨none, (.box 2 27 (.t 0))⟩, ⟨none, (.alloc 4 27 [(.list 0 (some true) []), (.list 0 (some true) []), (.int .i64 0), (.bool false)])⟩, ⟨none, (.mov 5 (.v (.k (.c (.int .i64 0)))))⟩]
def f11b20 : AQ := (.seq (.region f11r19) f11b18)
def f11 : AQ := f11b20
theorem hf11 : cFunc Tryz.prog 11 = some ⟨23, f11.erase, [(RX.cell 4 4 true), (RX.t 5)]⟩ := by kernel_rfl
theorem okf11 : f11.ok = true := by kernel_rfl
def f12r1 : List AI := [⟨none, (.faddr 11 0 (.t 1))⟩, ⟨none, (.load 12 1 false (.t 11))⟩, (AI.mk none (.build 13 [(.list 0 (some true) []), (.list 0 (some true) []), (.int .i64 0), (.bool false)] [(0, (1, (.t 12))), (2, (1, (.v (.k (.c (.int .i64 (-1))))))), (3, (1, (.v (.k (.c (.bool true))))))])), ⟨none, (.store 4 (.t 2) (.t 13))⟩, ⟨none, (.mov 3 (.v (.k (.c (.int .i64 0)))))⟩]
def f12b2 : AQ := (.seq (.region f12r1) .ret)
def f12r3 : List AI := [⟨none, (.build 9 [(.list 0 (some true) []), (.list 0 (some true) []), (.int .i64 0), (.bool false)] [])⟩, ⟨none, (.mov 10 (.t 4))⟩, ⟨none, (.store 4 (.t 2) (.t 9))⟩, ⟨none, (.mov 3 (.t 10))⟩]
def f12b4 : AQ := (.seq (.region f12r3) .ret)
def f12b5 : AQ := (.cond (.t 8) f12b4 .skip)
def f12r6 : List AI := [⟨none, (.mov 7 (.t 4))⟩, ⟨none, (.bin 8 .neq (.t 7) (.v (.k (.c (.int .i64 0)))))⟩]
def f12b7 : AQ := (.seq (.region f12r6) f12b5)
def f12b8 : AQ := (.seq f12b7 f12b2)
def f12r9 : List AI := [⟨none, (.load 5 4 true (.t 1))⟩, ⟨none, (.call (some 6) 33 [(.t 5)])⟩, ⟨none, (.mov 4 (.t 6))⟩]
def f12b10 : AQ := (.seq (.region f12r9) f12b8)
def f12r11 : List AI := [⟨none, (.box 1 27 (.t 0))⟩, ⟨none, (.alloc 2 27 [(.list 0 (some true) []), (.list 0 (some true) []), (.int .i64 0), (.bool false)])⟩, ⟨none, (.mov 3 (.v (.k (.c (.int .i64 0)))))⟩]
def f12b12 : AQ := (.seq (.region f12r11) f12b10)
def f12 : AQ := f12b12
theorem hf12 : cFunc Tryz.prog 12 = some ⟨14, f12.erase, [(RX.cell 2 4 true), (RX.t 3)]⟩ := by kernel_rfl
theorem okf12 : f12.ok = true := by kernel_rfl
def f13r1 : List AI := [⟨none, (.load 13 4 true (.t 1))⟩, ⟨none, (.store 4 (.t 2) (.t 13))⟩, ⟨none, (.mov 3 (.v (.k (.c (.int .i64 0)))))⟩]
def f13b2 : AQ := (.seq (.region f13r1) .ret)
def f13r3 : List AI := [⟨none, (.faddr 12 3 (.t 1))⟩, ⟨none, (.store 1 (.t 12) (.v (.k (.c (.bool false)))))⟩]
def f13b4 : AQ := (.seq (.region f13r3) f13b2)
def f13r5 : List AI := [⟨none, (.build 11 [(.list 0 (some true) []), (.list 0 (some true) []), (.int .i64 0), (.bool false)] [])⟩, ⟨none, (.store 4 (.t 2) (.t 11))⟩, ⟨none, (.mov 3 (.v (.k (.c (.int .i64 7)))))⟩]
def f13b6 : AQ := (.seq (.region f13r5) .ret)
def f13b7 : AQ := (.cond (.t 10) f13b6 .skip)
def f13r8 : List AI := [⟨none, (.faddr 8 3 (.t 1))⟩, ⟨none, (.load 9 1 false (.t 8))⟩, ⟨none, (.un 10 .not (.t 9))⟩]
def f13b9 : AQ := (.seq (.region f13r8) f13b7)
def f13b10 : AQ := (.seq f13b9 f13b4)
def f13r11 : List AI := [⟨none, (.build 7 [(.list 0 (some true) []), (.list 0 (some true) []), (.int .i64 0), (.bool false)] [])⟩, ⟨none, (.store 4 (.t 2) (.t 7))⟩, ⟨none, (.mov 3 (.v (.k (.c (.int .i64 1)))))⟩]
def f13b12 : AQ := (.seq (.region f13r11) .ret)
def f13b13 : AQ := (.cond (.t 6) f13b12 .skip)
def f13r14 : List AI := [⟨none, (.load 4 4 true (.t 1))⟩, ⟨none, (.call (some 5) 34 [(.t 4)])⟩, ⟨none, (.bin 6 .neq (.t 5) (.v (.k (.c (.int .i64 0)))))⟩]
def f13b15 : AQ := (.seq (.region f13r14) f13b13)
def f13b16 : AQ := (.seq f13b15 f13b10)
def f13r17 : List AI := [⟨none, (.box 1 27 (.t 0))⟩, ⟨none, (.alloc 2 27 [(.list 0 (some true) []), (.list 0 (some true) []), (.int .i64 0), (.bool false)])⟩, ⟨none, (.mov 3 (.v (.k (.c (.int .i64 0)))))⟩]
def f13b18 : AQ := (.seq (.region f13r17) f13b16)
def f13 : AQ := f13b18
theorem hf13 : cFunc Tryz.prog 13 = some ⟨14, f13.erase, [(RX.cell 2 4 true), (RX.t 3)]⟩ := by kernel_rfl
theorem okf13 : f13.ok = true := by kernel_rfl
def f14r1 : List AI := [⟨none, (.load 28 4 true (.t 1))⟩, ⟨none, (.call (some 29) 31 [(.t 28)])⟩, ⟨none, (.extr 30 (.t 29) 0)⟩, ⟨none, (.extr 31 (.t 29) 1)⟩, ⟨none, (.store 4 (.t 2) (.t 30))⟩, ⟨none, (.mov 3 (.t 31))⟩]
def f14b2 : AQ := (.seq (.region f14r1) .ret)
def f14r3 : List AI := [⟨none, (.bin 27 .add (.t 17) (.v (.k (.c (.int .i64 1)))))⟩, ⟨none, (.mov 17 (.t 27))⟩]
def f14r4o0 : AI := ⟨none, (.load 21 4 true (.t 1))⟩
def f14r4o1 : AI := ⟨none, (.mov 22 (.t 5))⟩
def f14r4o2 : AI := ⟨none, (.call (some 23) 32 [(.v (.k (.c (.int .i64 0))))])⟩
def f14r4o3 : AI := ⟨none, (.call (some 24) 30 [(.t 21), (.t 22), (.t 23)])⟩
def f14r4o4 : AI := ⟨none, (.mov 20 (.t 24))⟩
def f14r4o5 : AI := ⟨none, (.extr 25 (.t 20) 0)⟩
def f14r4o6 : AI := ⟨none, (.extr 26 (.t 20) 1)⟩
def f14r4o7 : AI := ⟨none, (.store 4 (.t 1) (.t 25))⟩
def f14r4 : List AI := [f14r4o0, f14r4o1, f14r4o2, f14r4o3, f14r4o4, f14r4o5, f14r4o6, f14r4o7]
theorem utf14r4 : treeOf f14r4 [[], [], [], [0, 1, 2, 2], [3], [4], [4], [5, 3, 0, 1, 2, 3, 4, 5]] = (.one f14r4o0 (.one f14r4o1 (.one f14r4o2 (.one f14r4o3 (.one f14r4o4 (.one f14r4o5 (.alt (.one f14r4o6 (.one f14r4o7 .done)) (.alt (.one f14r4o7 (.one f14r4o6 .done)) .top)))))))) := by kernel_rfl
def f14r5 : List AI := [⟨none, (.mov 19 (.t 17))⟩, ⟨none, (.mov 5 (.t 19))⟩]
def f14b6 : AQ := (.seq (.region f14r5) (.tree f14r4 [[], [], [], [0, 1, 2, 2], [3], [4], [4], [5, 3, 0, 1, 2, 3, 4, 5]]))
def f14b7 : AQ := (.block 1 f14b6)
def f14b8 : AQ := (.seq f14b7 (.region f14r3))
def f14b9 : AQ := (.cond (.t 18) .skip (.exit 0))
def f14b10 : AQ := (.seq f14b9 f14b8)
def f14r11 : List AI := [⟨none, (.bin 18 .lss (.t 17) (.v (.k (.c (.int .i64 2)))))⟩]
def f14b12 : AQ := (.seq (.region f14r11) f14b10)
def f14l13 : AQ := .loop [1, 2, 17] [1, 2, 24, 29, 25000, 25001, 25002, 30000, 30001, 30002] f14b12
theorem uf14l13 (P ts os Q) : awl P f14l13 Q ts os = awl P (.loop [1, 2, 17] [1, 2, 24, 29, 25000, 25001, 25002, 30000, 30001, 30002] f14b12) Q ts os := id rfl
def f14b14 : AQ := (.block 0 f14l13)
def f14r15 : List AI := [⟨none, (.mov 17 (.v (.k (.c (.int .i64 0)))))⟩]
def f14b16 : AQ := (.seq (.region f14r15) f14b14)
def f14b17 : AQ := (.seq f14b16 f14b2)
def f14r18 : List AI := [⟨none, (.build 16 [(.list 0 (some true) []), (.list 0 (some true) []), (.int .i64 0), (.bool false)] [])⟩, ⟨none, (.store 4 (.t 2) (.t 16))⟩, ⟨none, (.mov 3 (.v (.k (.c (.int .i64 6)))))⟩]
def f14b19 : AQ := (.seq (.region f14r18) .ret)
def f14b20 : AQ := (.cond (.t 15) f14b19 .skip)
def f14r21 : List AI := [⟨none, (.faddr 12 0 (.t 1))⟩, ⟨none, (.load 13 1 false (.t 12))⟩, ⟨none, (.len 14 (.t 13))⟩, ⟨none, (.bin 15 .leq (.t 14) (.v (.k (.c (.int .i64 2)))))⟩]
def f14b22 : AQ := (.seq (.region f14r21) f14b20)
def f14b23 : AQ := (.seq f14b22 f14b17)
def f14r24 : List AI := [⟨none, (.build 10 [(.list 0 (some true) []), (.list 0 (some true) []), (.int .i64 0), (.bool false)] [])⟩, ⟨none, (.mov 11 (.t 4))⟩, ⟨none, (.store 4 (.t 2) (.t 10))⟩, ⟨none, (.mov 3 (.t 11))⟩]
def f14b25 : AQ := (.seq (.region f14r24) .ret)
def f14b26 : AQ := (.cond (.t 9) f14b25 .skip)
def f14r27 : List AI := [⟨none, (.mov 8 (.t 4))⟩, ⟨none, (.bin 9 .neq (.t 8) (.v (.k (.c (.int .i64 0)))))⟩]
def f14b28 : AQ := (.seq (.region f14r27) f14b26)
def f14r29 : List AI := [⟨none, (.load 6 4 true (.t 1))⟩, ⟨none, (.call (some 7) 35 [(.t 6)])⟩, ⟨none, (.mov 4 (.t 7))⟩]
def f14b30 : AQ := (.seq (.region f14r29) f14b28)
def f14b31 : AQ := (.seq f14b30 f14b23)
def f14r32 : List AI := [⟨none, (.box 1 27 (.t 0))⟩, ⟨none, (.alloc 2 27 [(.list 0 (some true) []), (.list 0 (some true) []), (.int .i64 0), (.bool false)])⟩, ⟨none, (.mov 3 (.v (.k (.c (.int .i64 0)))))⟩]
def f14b33 : AQ := (.seq (.region f14r32) f14b31)
def f14 : AQ := f14b33
theorem hf14 : cFunc Tryz.prog 14 = some ⟨32, f14.erase, [(RX.cell 2 4 true), (RX.t 3)]⟩ := by kernel_rfl
theorem okf14 : f14.ok = true := by kernel_rfl
def f15r1 : List AI := [⟨none, (.load 66 4 true (.t 3))⟩, ⟨none, (.store 4 (.t 6) (.t 66))⟩, ⟨none, (.mov 7 (.v (.k (.c (.int .i64 0)))))⟩]
def f15b2 : AQ := (.seq (.region f15r1) .ret)
def f15r3 : List AI := [⟨none, (.mov 64 (.t 9))⟩, ⟨none, (.faddr 65 1 (.t 3))⟩, ⟨none, (.store 1 (.t 65) (.t 64))⟩]
def f15b4 : AQ := (.seq (.region f15r3) f15b2)
def f15r5 : List AI := [⟨none, (.mov 53 (.t 9))⟩, ⟨none, (.mov 54 (.t 1))⟩, ⟨none, (.mov 55 (.t 2))⟩, ⟨none, (.mov 56 (.t 2))⟩, ⟨none, (.lenS 57 (.t 56))⟩, ⟨none, (.bin 58 .sub (.v (.k (.c (.int .i64 16)))) (.t 57))⟩, ⟨none, (.call (some 59) 21 [(.t 58)])⟩, ⟨none, (.bin 60 .add (.t 55) (.t 59))⟩, ⟨none, (.build 61 [(.int .i64 0), (.str [])] [(0, (1, (.t 54))), (1, (1, (.t 60)))])⟩, ⟨none, (.bslice 62 57 2 [(.int .i64 0), (.str [])] 1 [(0, (.t 61))])⟩, ⟨none, (.append 63 57 2 24 (.t 53) (.t 62))⟩, ⟨none, (.mov 9 (.t 63))⟩]
def f15b6 : AQ := (.seq (.region f15r5) f15b4)
def f15r7 : List AI := [⟨none, (.mov 43 (.t 10))⟩, ⟨none, (.bin 44 .add (.t 43) (.v (.k (.c (.int .i64 1)))))⟩, ⟨none, (.mov 10 (.t 44))⟩]
def f15r8 : List AI := [⟨none, (.mov 45 (.t 9))⟩, ⟨none, (.faddr 46 1 (.t 3))⟩, ⟨none, (.load 47 1 false (.t 46))⟩, ⟨none, (.mov 48 (.t 10))⟩, ⟨none, (.iaddr 49 2 (.t 47) (.t 48))⟩, ⟨none, (.load 50 2 true (.t 49))⟩, ⟨none, (.bslice 51 57 2 [(.int .i64 0), (.str [])] 1 [(0, (.t 50))])⟩, ⟨none, (.append 52 57 2 24 (.t 45) (.t 51))⟩, ⟨none, (.mov 9 (.t 52))⟩]
def f15b9 : AQ := (.block 1 (.region f15r8))
def f15b10 : AQ := (.seq f15b9 (.region f15r7))
def f15b11 : AQ := (.cond (.t 42) .skip (.exit 0))
def f15r12 : List AI := [⟨none, (.mov 38 (.t 10))⟩, ⟨none, (.faddr 39 1 (.t 3))⟩, ⟨none, (.load 40 1 false (.t 39))⟩, ⟨none, (.len 41 (.t 40))⟩, ⟨none, (.bin 42 .lss (.t 38) (.t 41))⟩]
def f15b13 : AQ := (.seq (.region f15r12) f15b11)
def f15b14 : AQ := (.seq f15b13 f15b10)
def f15l15 : AQ := .loop [1, 2, 3, 6, 9, 10] [3, 6, 37, 52, 63] f15b14
theorem uf15l15 (P ts os Q) : awl P f15l15 Q ts os = awl P (.loop [1, 2, 3, 6, 9, 10] [3, 6, 37, 52, 63] f15b14) Q ts os := id rfl
def f15b16 : AQ := (.block 0 f15l15)
def f15r17 : List AI := [⟨none, (.mov 10 (.v (.k (.c (.int .i64 0)))))⟩]
def f15b18 : AQ := (.seq (.region f15r17) f15b16)
def f15b19 : AQ := (.seq f15b18 f15b6)
def f15r20 : List AI := [⟨none, (.bslice 37 57 2 [(.int .i64 0), (.str [])] 0 [])⟩, ⟨none, (.mov 9 (.t 37))⟩]
def f15b21 : AQ := (.seq (.region f15r20) f15b19)
def f15r22 : List AI := [⟨none, (.build 36 [(.list 0 (some true) []), (.list 0 (some true) []), (.int .i64 0), (.bool false)] [])⟩, ⟨none, (.store 4 (.t 6) (.t 36))⟩, ⟨none, (.mov 7 (.v (.k (.c (.int .i64 6)))))⟩]
def f15b23 : AQ := (.seq (.region f15r22) .ret)
def f15b24 : AQ := (.cond (.t 35) f15b23 .skip)
def f15r25 : List AI := [⟨none, (.faddr 32 1 (.t 3))⟩, ⟨none, (.load 33 1 false (.t 32))⟩, ⟨none, (.len 34 (.t 33))⟩, ⟨none, (.bin 35 .geq (.t 34) (.v (.k (.c (.int .i64 512)))))⟩]
def f15b26 : AQ := (.seq (.region f15r25) f15b24)
def f15b27 : AQ := (.seq f15b26 f15b21)
def f15r28 : List AI := [⟨none, (.build 31 [(.list 0 (some true) []), (.list 0 (some true) []), (.int .i64 0), (.bool false)] [])⟩, ⟨none, (.store 4 (.t 6) (.t 31))⟩, ⟨none, (.mov 7 (.v (.k (.c (.int .i64 1)))))⟩]
def f15b29 : AQ := (.seq (.region f15r28) .ret)
def f15b30 : AQ := (.cond (.t 30) f15b29 .skip)
def f15r31 : List AI := [⟨none, (.mov 17 (.t 1))⟩, ⟨none, (.bin 18 .lss (.t 17) (.v (.k (.c (.int .i64 0)))))⟩, ⟨none, (.mov 19 (.t 18))⟩, ⟨(some (19, false)), (.mov 20 (.t 1))⟩, ⟨(some (19, false)), (.faddr 21 0 (.t 3))⟩, ⟨(some (19, false)), (.load 22 1 false (.t 21))⟩, ⟨(some (19, false)), (.len 23 (.t 22))⟩, ⟨(some (19, false)), (.bin 24 .geq (.t 20) (.t 23))⟩, ⟨none, (.pick 25 (.t 19) (.v (.k (.c (.bool true)))) (.t 24))⟩, ⟨none, (.mov 26 (.t 25))⟩, ⟨(some (26, false)), (.mov 27 (.t 2))⟩, ⟨(some (26, false)), (.lenS 28 (.t 27))⟩, ⟨(some (26, false)), (.bin 29 .gtr (.t 28) (.v (.k (.c (.int .i64 16)))))⟩, ⟨none, (.pick 30 (.t 26) (.v (.k (.c (.bool true)))) (.t 29))⟩]
def f15b32 : AQ := (.seq (.region f15r31) f15b30)
def f15b33 : AQ := (.seq f15b32 f15b27)
def f15r34 : List AI := [⟨none, (.build 15 [(.list 0 (some true) []), (.list 0 (some true) []), (.int .i64 0), (.bool false)] [])⟩, ⟨none, (.mov 16 (.t 8))⟩, ⟨none, (.store 4 (.t 6) (.t 15))⟩, ⟨none, (.mov 7 (.t 16))⟩]
def f15b35 : AQ := (.seq (.region f15r34) .ret)
def f15b36 : AQ := (.cond (.t 14) f15b35 .skip)
def f15r37 : List AI := [⟨none, (.mov 13 (.t 8))⟩, ⟨none, (.bin 14 .neq (.t 13) (.v (.k (.c (.int .i64 0)))))⟩]
def f15b38 : AQ := (.seq (.region f15r37) f15b36)
def f15b39 : AQ := (.seq f15b38 f15b33)
def f15r40 : List AI := [⟨none, (.load 11 4 true (.t 3))⟩, ⟨none, (.call (some 12) 33 [(.t 11)])⟩, ⟨none, (.mov 8 (.t 12))⟩]
def f15b41 : AQ := (.seq (.region f15r40) f15b39)
def f15r42 : List AI := [⟨none, (.box 3 27 (.t 0))⟩, ⟨none, (.alloc 6 27 [(.list 0 (some true) []), (.list 0 (some true) []), (.int .i64 0), (.bool false)])⟩, ⟨none, (.mov 7 (.v (.k (.c (.int .i64 0)))))⟩]
def f15b43 : AQ := (.seq (.region f15r42) f15b41)
def f15 : AQ := f15b43
theorem hf15 : cFunc Tryz.prog 15 = some ⟨67, f15.erase, [(RX.cell 6 4 true), (RX.t 7)]⟩ := by kernel_rfl
theorem okf15 : f15.ok = true := by kernel_rfl
def f16r1 : List AI := [⟨none, (.mov 66 (.t 8))⟩, ⟨none, (.mov 2 (.t 66))⟩, ⟨none, (.mov 3 (.v (.k (.c (.int .i64 0)))))⟩]
def f16b2 : AQ := (.seq (.region f16r1) .ret)
def f16r3 : List AI := [⟨none, (.nilL 2 9 1)⟩, ⟨none, (.mov 3 (.v (.k (.c (.int .i64 22)))))⟩]
def f16b4 : AQ := (.seq (.region f16r3) .ret)
def f16b5 : AQ := (.cond (.t 65) f16b4 .skip)
def f16r6 : List AI := [⟨none, (.mov 63 (.t 8))⟩, ⟨none, (.len 64 (.t 63))⟩, ⟨none, (.bin 65 .gtr (.t 64) (.v (.k (.c (.int .i64 500)))))⟩]
def f16b7 : AQ := (.seq (.region f16r6) f16b5)
def f16b8 : AQ := (.seq f16b7 f16b2)
def f16r9 : List AI := [⟨none, (.mov 62 (.t 10))⟩, ⟨none, (.mov 7 (.t 62))⟩]
def f16r10 : List AI := [⟨none, (.mov 58 (.t 8))⟩, ⟨none, (.mov 59 (.t 9))⟩, ⟨none, (.bslice 60 9 1 [(.str [])] 1 [(0, (.t 59))])⟩, ⟨none, (.append 61 9 1 16 (.t 58) (.t 60))⟩, ⟨none, (.mov 8 (.t 61))⟩]
def f16b11 : AQ := (.seq (.region f16r10) (.region f16r9))
def f16r12 : List AI := [⟨none, (.nilL 2 9 1)⟩, ⟨none, (.mov 3 (.v (.k (.c (.int .i64 22)))))⟩]
def f16b13 : AQ := (.seq (.region f16r12) .ret)
def f16b14 : AQ := (.cond (.t 57) f16b13 .skip)
def f16r15 : List AI := [⟨none, (.mov 51 (.t 11))⟩, ⟨none, (.un 52 .not (.t 51))⟩, ⟨none, (.mov 53 (.t 52))⟩, ⟨(some (53, false)), (.mov 54 (.t 9))⟩, ⟨(some (53, false)), (.lenS 55 (.t 54))⟩, ⟨(some (53, false)), (.bin 56 .gtr (.t 55) (.v (.k (.c (.int .i64 2000)))))⟩, ⟨none, (.pick 57 (.t 53) (.v (.k (.c (.bool true)))) (.t 56))⟩]
def f16b16 : AQ := (.seq (.region f16r15) f16b14)
def f16b17 : AQ := (.seq f16b16 f16b11)
def f16r18 : List AI := [⟨none, (.mov 46 (.t 7))⟩, ⟨none, (.call (some 47) 38 [(.t 46)])⟩, ⟨none, (.mov 45 (.t 47))⟩, ⟨none, (.extr 48 (.t 45) 0)⟩, ⟨none, (.extr 49 (.t 45) 1)⟩, ⟨none, (.extr 50 (.t 45) 2)⟩, ⟨none, (.mov 9 (.t 48))⟩, ⟨none, (.mov 10 (.t 49))⟩, ⟨none, (.mov 11 (.t 50))⟩]
def f16b19 : AQ := (.seq (.region f16r18) f16b17)
def f16b20 : AQ := (.block 1 f16b19)
def f16b21 : AQ := (.cond (.t 44) .skip (.exit 0))
def f16r22 : List AI := [⟨none, (.mov 42 (.t 7))⟩, ⟨none, (.lenS 43 (.t 42))⟩, ⟨none, (.bin 44 .gtr (.t 43) (.v (.k (.c (.int .i64 0)))))⟩]
def f16b23 : AQ := (.seq (.region f16r22) f16b21)
def f16b24 : AQ := (.seq f16b23 f16b20)
def f16l25 : AQ := .loop [7, 8] [8, 61] f16b24
theorem uf16l25 (P ts os Q) : awl P f16l25 Q ts os = awl P (.loop [7, 8] [8, 61] f16b24) Q ts os := id rfl
def f16b26 : AQ := (.block 0 f16l25)
def f16b27 : AQ := (.seq f16b26 f16b8)
def f16r28 : List AI := [⟨none, (.nilL 8 9 1)⟩]
def f16b29 : AQ := (.seq (.region f16r28) f16b27)
def f16r30 : List AI := [⟨none, (.mov 39 (.t 5))⟩, ⟨none, (.mov 40 (.t 6))⟩, ⟨none, (.slstr 41 (.t 39) none (some (.t 40)))⟩, ⟨none, (.mov 7 (.t 41))⟩]
def f16b31 : AQ := (.seq (.region f16r30) f16b29)
def f16r32 : List AI := [⟨none, (.nilL 2 9 1)⟩, ⟨none, (.mov 3 (.v (.k (.c (.int .i64 22)))))⟩]
def f16b33 : AQ := (.seq (.region f16r32) .ret)
def f16b34 : AQ := (.cond (.t 38) f16b33 .skip)
def f16r35 : List AI := [⟨none, (.mov 35 (.t 6))⟩, ⟨none, (.mov 36 (.t 5))⟩, ⟨none, (.lenS 37 (.t 36))⟩, ⟨none, (.bin 38 .gtr (.t 35) (.t 37))⟩]
def f16b36 : AQ := (.seq (.region f16r35) f16b34)
def f16b37 : AQ := (.seq f16b36 f16b31)
def f16r38 : List AI := [⟨none, (.faddr 28 0 (.t 1))⟩, ⟨none, (.load 29 1 false (.t 28))⟩, ⟨none, (.load 30 4 true (.t 1))⟩, ⟨none, (.call (some 31) 27 [(.t 30)])⟩, ⟨none, (.iaddr 32 1 (.t 29) (.t 31))⟩, ⟨none, (.load 33 1 false (.t 32))⟩, ⟨none, (.call (some 34) 37 [(.t 33)])⟩, ⟨none, (.mov 6 (.t 34))⟩]
def f16b39 : AQ := (.seq (.draw f16r38 [[], [0], [], [2], [1, 3], [4], [5, 3], [6, 6, 0, 1, 2, 3, 4, 5, 6]]) f16b37)
def f16r40 : List AI := [⟨none, (.load 26 4 true (.t 1))⟩, ⟨none, (.call (some 27) 36 [(.t 26)])⟩, ⟨none, (.mov 5 (.t 27))⟩]
def f16b41 : AQ := (.seq (.region f16r40) f16b39)
def f16r42 : List AI := [⟨none, (.nilL 2 9 1)⟩, ⟨none, (.mov 3 (.v (.k (.c (.int .i64 22)))))⟩]
def f16b43 : AQ := (.seq (.region f16r42) .ret)
def f16b44 : AQ := (.cond (.t 25) f16b43 .skip)
def f16r45 : List AI := [⟨none, (.faddr 17 0 (.t 1))⟩, ⟨none, (.load 18 1 false (.t 17))⟩, ⟨none, (.len 19 (.t 18))⟩, ⟨none, (.bin 20 .lss (.t 19) (.v (.k (.c (.int .i64 3)))))⟩, ⟨none, (.mov 21 (.t 20))⟩, ⟨(some (21, false)), (.load 22 4 true (.t 1))⟩, ⟨(some (21, false)), (.call (some 23) 27 [(.t 22)])⟩, ⟨(some (21, false)), (.bin 24 .lss (.t 23) (.v (.k (.c (.int .i64 0)))))⟩, ⟨none, (.pick 25 (.t 21) (.v (.k (.c (.bool true)))) (.t 24))⟩]
def f16b46 : AQ := (.seq (.region f16r45) f16b44)
def f16b47 : AQ := (.seq f16b46 f16b41)
def f16r48 : List AI := [⟨none, (.mov 16 (.t 4))⟩, ⟨none, (.nilL 2 9 1)⟩, ⟨none, (.mov 3 (.t 16))⟩]
def f16b49 : AQ := (.seq (.region f16r48) .ret)
def f16b50 : AQ := (.cond (.t 15) f16b49 .skip)
def f16r51 : List AI := [⟨none, (.mov 14 (.t 4))⟩, ⟨none, (.bin 15 .neq (.t 14) (.v (.k (.c (.int .i64 0)))))⟩]
def f16b52 : AQ := (.seq (.region f16r51) f16b50)
def f16b53 : AQ := (.seq f16b52 f16b47)
def f16r54 : List AI := [⟨none, (.load 12 4 true (.t 1))⟩, ⟨none, (.call (some 13) 22 [(.t 12)])⟩, ⟨none, (.mov 4 (.t 13))⟩]
def f16b55 : AQ := (.seq (.region f16r54) f16b53)
def f16r56 : List AI := [⟨none, (.box 1 27 (.t 0))⟩, ⟨none, (.nilL 2 9 1)⟩, ⟨none, (.mov 3 (.v (.k (.c (.int .i64 0)))))⟩]
def f16b57 : AQ := (.seq (.region f16r56) f16b55)
def f16 : AQ := f16b57
theorem hf16 : cFunc Tryz.prog 16 = some ⟨67, f16.erase, [(RX.t 2), (RX.t 3)]⟩ := by kernel_rfl
theorem okf16 : f16.ok = true := by kernel_rfl
def f17r1 : List AI := [⟨none, (.faddr 11 0 (.t 4))⟩, ⟨none, (.load 12 1 false (.t 11))⟩, ⟨none, (.mov 13 (.t 5))⟩, ⟨none, (.mov 2 (.t 12))⟩, ⟨none, (.mov 3 (.t 13))⟩]
def f17b2 : AQ := (.seq (.region f17r1) .ret)
def f17r3 : List AI := [⟨none, (.load 7 4 true (.t 1))⟩, ⟨none, (.call (some 8) 28 [(.t 7)])⟩, ⟨none, (.mov 6 (.t 8))⟩, ⟨none, (.extr 9 (.t 6) 0)⟩, ⟨none, (.extr 10 (.t 6) 1)⟩, ⟨none, (.alloc 4 53 [(.list 0 (some true) []), (.str []), (.int .i64 0)])⟩, ⟨none, (.store 3 (.t 4) (.t 9))⟩, ⟨none, (.mov 5 (.t 10))⟩]
def f17b4 : AQ := (.seq (.region f17r3) f17b2)
def f17r5 : List AI := [⟨none, (.box 1 27 (.t 0))⟩, ⟨none, (.nilL 2 9 1)⟩, ⟨none, (.mov 3 (.v (.k (.c (.int .i64 0)))))⟩]
def f17b6 : AQ := (.seq (.region f17r5) f17b4)
def f17 : AQ := f17b6
theorem hf17 : cFunc Tryz.prog 17 = some ⟨14, f17.erase, [(RX.t 2), (RX.t 3)]⟩ := by kernel_rfl
theorem okf17 : f17.ok = true := by kernel_rfl
def f18r1 : List AI := [⟨none, (.faddr 11 0 (.t 4))⟩, ⟨none, (.load 12 1 false (.t 11))⟩, ⟨none, (.len 13 (.t 12))⟩, ⟨none, (.mov 14 (.t 5))⟩, ⟨none, (.mov 2 (.t 13))⟩, ⟨none, (.mov 3 (.t 14))⟩]
def f18b2 : AQ := (.seq (.region f18r1) .ret)
def f18r3 : List AI := [⟨none, (.load 7 4 true (.t 1))⟩, ⟨none, (.call (some 8) 28 [(.t 7)])⟩, ⟨none, (.mov 6 (.t 8))⟩, ⟨none, (.extr 9 (.t 6) 0)⟩, ⟨none, (.extr 10 (.t 6) 1)⟩, ⟨none, (.alloc 4 53 [(.list 0 (some true) []), (.str []), (.int .i64 0)])⟩, ⟨none, (.store 3 (.t 4) (.t 9))⟩, ⟨none, (.mov 5 (.t 10))⟩]
def f18b4 : AQ := (.seq (.region f18r3) f18b2)
def f18r5 : List AI := [⟨none, (.box 1 27 (.t 0))⟩, ⟨none, (.mov 2 (.v (.k (.c (.int .i64 0)))))⟩, ⟨none, (.mov 3 (.v (.k (.c (.int .i64 0)))))⟩]
def f18b6 : AQ := (.seq (.region f18r5) f18b4)
def f18 : AQ := f18b6
theorem hf18 : cFunc Tryz.prog 18 = some ⟨15, f18.erase, [(RX.t 2), (RX.t 3)]⟩ := by kernel_rfl
theorem okf18 : f18.ok = true := by kernel_rfl
def f19r1 : List AI := [⟨none, (.faddr 29 0 (.t 6))⟩, ⟨none, (.load 30 1 false (.t 29))⟩, ⟨none, (.mov 31 (.t 1))⟩, ⟨none, (.iaddr 32 1 (.t 30) (.t 31))⟩, ⟨none, (.load 33 1 false (.t 32))⟩, ⟨none, (.mov 4 (.t 33))⟩, ⟨none, (.mov 5 (.v (.k (.c (.int .i64 0)))))⟩]
def f19b2 : AQ := (.seq (.region f19r1) .ret)
def f19r3 : List AI := [⟨none, (.mov 28 (.t 7))⟩, ⟨none, (.mov 4 (.v (.k (.c (.str [])))))⟩, ⟨none, (.mov 5 (.t 28))⟩]
def f19b4 : AQ := (.seq (.region f19r3) .ret)
def f19b5 : AQ := (.cond (.t 27) f19b4 .skip)
def f19r6 : List AI := [⟨none, (.mov 26 (.t 7))⟩, ⟨none, (.bin 27 .neq (.t 26) (.v (.k (.c (.int .i64 0)))))⟩]
def f19b7 : AQ := (.seq (.region f19r6) f19b5)
def f19b8 : AQ := (.seq f19b7 f19b2)
def f19r9 : List AI := [⟨none, (.mov 7 (.v (.k (.c (.int .i64 4)))))⟩]
def f19b10 : AQ := (.cond (.t 25) (.region f19r9) .skip)
def f19r11 : List AI := [⟨none, (.mov 13 (.t 7))⟩, ⟨none, (.bin 14 .eql (.t 13) (.v (.k (.c (.int .i64 0)))))⟩, ⟨none, (.mov 15 (.t 14))⟩, ⟨(some (15, true)), (.mov 16 (.t 1))⟩, ⟨(some (15, true)), (.bin 17 .lss (.t 16) (.v (.k (.c (.int .i64 0)))))⟩, ⟨(some (15, true)), (.mov 18 (.t 17))⟩, ⟨(some (18, false)), (.mov 19 (.t 1))⟩, ⟨(some (18, false)), (.faddr 20 0 (.t 6))⟩, ⟨(some (18, false)), (.load 21 1 false (.t 20))⟩, ⟨(some (18, false)), (.len 22 (.t 21))⟩, ⟨(some (18, false)), (.bin 23 .geq (.t 19) (.t 22))⟩, ⟨(some (15, true)), (.pick 24 (.t 18) (.v (.k (.c (.bool true)))) (.t 23))⟩, ⟨none, (.pick 25 (.t 15) (.t 24) (.v (.k (.c (.bool false)))))⟩]
def f19b12 : AQ := (.seq (.region f19r11) f19b10)
def f19b13 : AQ := (.seq f19b12 f19b8)
def f19r14 : List AI := [⟨none, (.load 9 4 true (.t 2))⟩, ⟨none, (.call (some 10) 28 [(.t 9)])⟩, ⟨none, (.mov 8 (.t 10))⟩, ⟨none, (.extr 11 (.t 8) 0)⟩, ⟨none, (.extr 12 (.t 8) 1)⟩, ⟨none, (.alloc 6 53 [(.list 0 (some true) []), (.str []), (.int .i64 0)])⟩, ⟨none, (.store 3 (.t 6) (.t 11))⟩, ⟨none, (.mov 7 (.t 12))⟩]
def f19b15 : AQ := (.seq (.region f19r14) f19b13)
def f19r16 : List AI := [⟨none, (.box 2 27 (.t 0))⟩, ⟨none, (.mov 4 (.v (.k (.c (.str [])))))⟩, ⟨none, (.mov 5 (.v (.k (.c (.int .i64 0)))))⟩]
def f19b17 : AQ := (.seq (.region f19r16) f19b15)
def f19 : AQ := f19b17
theorem hf19 : cFunc Tryz.prog 19 = some ⟨34, f19.erase, [(RX.t 4), (RX.t 5)]⟩ := by kernel_rfl
theorem okf19 : f19.ok = true := by kernel_rfl
def f20r1 : List AI := [⟨none, (.mov 4 (.v (.k (.c (.bool true)))))⟩]
def f20b2 : AQ := (.seq (.region f20r1) .ret)
def f20r3 : List AI := [⟨none, (.mov 15 (.t 5))⟩, ⟨none, (.bin 16 .add (.t 15) (.v (.k (.c (.int .i64 1)))))⟩, ⟨none, (.mov 5 (.t 16))⟩]
def f20r4 : List AI := [⟨none, (.mov 4 (.v (.k (.c (.bool false)))))⟩]
def f20b5 : AQ := (.seq (.region f20r4) .ret)
def f20b6 : AQ := (.cond (.t 25) f20b5 .skip)
def f20r7 : List AI := [⟨none, (.mov 17 (.t 0))⟩, ⟨none, (.mov 18 (.t 5))⟩, ⟨none, (.iaddr 19 1 (.t 17) (.t 18))⟩, ⟨none, (.load 20 1 false (.t 19))⟩, ⟨none, (.mov 21 (.t 1))⟩, ⟨none, (.mov 22 (.t 5))⟩, ⟨none, (.iaddr 23 1 (.t 21) (.t 22))⟩, ⟨none, (.load 24 1 false (.t 23))⟩, ⟨none, (.bin 25 .neq (.t 20) (.t 24))⟩]
def f20b8 : AQ := (.seq (.draw f20r7 [[], [], [0, 1], [2], [], [], [4, 5], [6], [3, 7]]) f20b6)
def f20b9 : AQ := (.block 1 f20b8)
def f20b10 : AQ := (.seq f20b9 (.region f20r3))
def f20b11 : AQ := (.cond (.t 14) .skip (.exit 0))
def f20r12 : List AI := [⟨none, (.mov 11 (.t 5))⟩, ⟨none, (.mov 12 (.t 0))⟩, ⟨none, (.len 13 (.t 12))⟩, ⟨none, (.bin 14 .lss (.t 11) (.t 13))⟩]
def f20b13 : AQ := (.seq (.region f20r12) f20b11)
def f20b14 : AQ := (.seq f20b13 f20b10)
def f20l15 : AQ := .loop [0, 1, 5] [] f20b14
theorem uf20l15 (P ts os Q) : awl P f20l15 Q ts os = awl P (.loop [0, 1, 5] [] f20b14) Q ts os := id rfl
def f20b16 : AQ := (.block 0 f20l15)
def f20r17 : List AI := [⟨none, (.mov 5 (.v (.k (.c (.int .i64 0)))))⟩]
def f20b18 : AQ := (.seq (.region f20r17) f20b16)
def f20b19 : AQ := (.seq f20b18 f20b2)
def f20r20 : List AI := [⟨none, (.mov 4 (.v (.k (.c (.bool false)))))⟩]
def f20b21 : AQ := (.seq (.region f20r20) .ret)
def f20b22 : AQ := (.cond (.t 10) f20b21 .skip)
def f20r23 : List AI := [⟨none, (.mov 6 (.t 0))⟩, ⟨none, (.len 7 (.t 6))⟩, ⟨none, (.mov 8 (.t 1))⟩, ⟨none, (.len 9 (.t 8))⟩, ⟨none, (.bin 10 .neq (.t 7) (.t 9))⟩]
def f20b24 : AQ := (.seq (.region f20r23) f20b22)
def f20b25 : AQ := (.seq f20b24 f20b19)
def f20r26 : List AI := [⟨none, (.mov 4 (.v (.k (.c (.bool false)))))⟩]
def f20b27 : AQ := (.seq (.region f20r26) f20b25)
def f20 : AQ := f20b27
theorem hf20 : cFunc Tryz.prog 20 = some ⟨26, f20.erase, [(RX.t 4)]⟩ := by kernel_rfl
theorem okf20 : f20.ok = true := by kernel_rfl
def f21r1 : List AI := [⟨none, (.mov 12 (.t 3))⟩, ⟨none, (.mov 2 (.t 12))⟩]
def f21b2 : AQ := (.seq (.region f21r1) .ret)
def f21r3 : List AI := [⟨none, (.mov 8 (.t 4))⟩, ⟨none, (.bin 9 .add (.t 8) (.v (.k (.c (.int .i64 1)))))⟩, ⟨none, (.mov 4 (.t 9))⟩]
def f21r4 : List AI := [⟨none, (.mov 10 (.t 3))⟩, ⟨none, (.bin 11 .add (.t 10) (.v (.k (.c (.str [0])))))⟩, ⟨none, (.mov 3 (.t 11))⟩]
def f21b5 : AQ := (.block 1 (.region f21r4))
def f21b6 : AQ := (.seq f21b5 (.region f21r3))
def f21b7 : AQ := (.cond (.t 7) .skip (.exit 0))
def f21r8 : List AI := [⟨none, (.mov 5 (.t 4))⟩, ⟨none, (.mov 6 (.t 0))⟩, ⟨none, (.bin 7 .lss (.t 5) (.t 6))⟩]
def f21b9 : AQ := (.seq (.region f21r8) f21b7)
def f21b10 : AQ := (.seq f21b9 f21b6)
def f21l11 : AQ := .loop [0, 3, 4] [] f21b10
theorem uf21l11 (P ts os Q) : awl P f21l11 Q ts os = awl P (.loop [0, 3, 4] [] f21b10) Q ts os := id rfl
def f21b12 : AQ := (.block 0 f21l11)
def f21r13 : List AI := [⟨none, (.mov 4 (.v (.k (.c (.int .i64 0)))))⟩]
def f21b14 : AQ := (.seq (.region f21r13) f21b12)
def f21b15 : AQ := (.seq f21b14 f21b2)
def f21r16 : List AI := [⟨none, (.mov 3 (.v (.k (.c (.str [])))))⟩]
def f21b17 : AQ := (.seq (.region f21r16) f21b15)
def f21r18 : List AI := [⟨none, (.mov 2 (.v (.k (.c (.str [])))))⟩]
def f21b19 : AQ := (.seq (.region f21r18) f21b17)
def f21 : AQ := f21b19
theorem hf21 : cFunc Tryz.prog 21 = some ⟨13, f21.erase, [(RX.t 2)]⟩ := by kernel_rfl
theorem okf21 : f21.ok = true := by kernel_rfl
def f22r1 : List AI := [⟨none, (.mov 2 (.v (.k (.c (.int .i64 0)))))⟩]
def f22b2 : AQ := (.seq (.region f22r1) .ret)
def f22r3 : List AI := [⟨none, (.mov 2 (.v (.k (.c (.int .i64 7)))))⟩]
def f22b4 : AQ := (.seq (.region f22r3) .ret)
def f22b5 : AQ := (.cond (.t 14) f22b4 .skip)
def f22r6 : List AI := [⟨none, (.faddr 11 1 (.t 1))⟩, ⟨none, (.load 12 1 false (.t 11))⟩, ⟨none, (.len 13 (.t 12))⟩, ⟨none, (.bin 14 .gtr (.t 13) (.v (.k (.c (.int .i64 0)))))⟩]
def f22b7 : AQ := (.seq (.region f22r6) f22b5)
def f22b8 : AQ := (.seq f22b7 f22b2)
def f22r9 : List AI := [⟨none, (.mov 2 (.v (.k (.c (.int .i64 8)))))⟩]
def f22b10 : AQ := (.seq (.region f22r9) .ret)
def f22b11 : AQ := (.cond (.t 10) f22b10 .skip)
def f22r12 : List AI := [⟨none, (.faddr 9 3 (.t 1))⟩, ⟨none, (.load 10 1 false (.t 9))⟩]
def f22b13 : AQ := (.seq (.region f22r12) f22b11)
def f22b14 : AQ := (.seq f22b13 f22b8)
def f22r15 : List AI := [⟨none, (.mov 8 (.t 3))⟩, ⟨none, (.mov 2 (.t 8))⟩]
def f22b16 : AQ := (.seq (.region f22r15) .ret)
def f22b17 : AQ := (.cond (.t 7) f22b16 .skip)
def f22r18 : List AI := [⟨none, (.mov 6 (.t 3))⟩, ⟨none, (.bin 7 .neq (.t 6) (.v (.k (.c (.int .i64 0)))))⟩]
def f22b19 : AQ := (.seq (.region f22r18) f22b17)
def f22b20 : AQ := (.seq f22b19 f22b14)
def f22r21 : List AI := [⟨none, (.load 4 4 true (.t 1))⟩, ⟨none, (.call (some 5) 34 [(.t 4)])⟩, ⟨none, (.mov 3 (.t 5))⟩]
def f22b22 : AQ := (.seq (.region f22r21) f22b20)
def f22r23 : List AI := [⟨none, (.box 1 27 (.t 0))⟩, ⟨none, (.mov 2 (.v (.k (.c (.int .i64 0)))))⟩]
def f22b24 : AQ := (.seq (.region f22r23) f22b22)
def f22 : AQ := f22b24
theorem hf22 : cFunc Tryz.prog 22 = some ⟨15, f22.erase, [(RX.t 2)]⟩ := by kernel_rfl
theorem okf22 : f22.ok = true := by kernel_rfl
def f23r1 : List AI := [⟨none, (.mov 21 (.t 3))⟩, ⟨none, (.mov 22 (.t 3))⟩, ⟨none, (.bin 23 .add (.t 21) (.t 22))⟩, ⟨none, (.mov 2 (.t 23))⟩]
def f23b2 : AQ := (.seq (.region f23r1) .ret)
def f23r3 : List AI := [⟨none, (.mov 8 (.t 4))⟩, ⟨none, (.bin 9 .add (.t 8) (.v (.k (.c (.int .i64 1)))))⟩, ⟨none, (.mov 4 (.t 9))⟩]
def f23r4 : List AI := [⟨none, (.mov 19 (.t 0))⟩, ⟨none, (.bin 20 .quo (.t 19) (.v (.k (.c (.int .i64 10)))))⟩, ⟨none, (.mov 0 (.t 20))⟩]
def f23r5 : List AI := [⟨none, (.mov 10 (.t 5))⟩, ⟨none, (.mov 11 (.t 0))⟩, ⟨none, (.bin 12 .rem (.t 11) (.v (.k (.c (.int .i64 10)))))⟩, ⟨none, (.mov 13 (.t 0))⟩, ⟨none, (.bin 14 .rem (.t 13) (.v (.k (.c (.int .i64 10)))))⟩, ⟨none, (.bin 15 .add (.t 14) (.v (.k (.c (.int .i64 1)))))⟩, ⟨none, (.slstr 16 (.t 10) (some (.t 12)) (some (.t 15)))⟩, ⟨none, (.mov 17 (.t 3))⟩, ⟨none, (.bin 18 .add (.t 16) (.t 17))⟩, ⟨none, (.mov 3 (.t 18))⟩]
def f23b6 : AQ := (.seq (.region f23r5) (.region f23r4))
def f23r7 : List AI := [⟨none, (.mov 5 (.v (.k (.c (.str [48, 49, 50, 51, 52, 53, 54, 55, 56, 57])))))⟩]
def f23b8 : AQ := (.seq (.region f23r7) f23b6)
def f23b9 : AQ := (.block 1 f23b8)
def f23b10 : AQ := (.seq f23b9 (.region f23r3))
def f23b11 : AQ := (.cond (.t 7) .skip (.exit 0))
def f23r12 : List AI := [⟨none, (.mov 6 (.t 4))⟩, ⟨none, (.bin 7 .lss (.t 6) (.v (.k (.c (.int .i64 8)))))⟩]
def f23b13 : AQ := (.seq (.region f23r12) f23b11)
def f23b14 : AQ := (.seq f23b13 f23b10)
def f23l15 : AQ := .loop [0, 3, 4] [] f23b14
theorem uf23l15 (P ts os Q) : awl P f23l15 Q ts os = awl P (.loop [0, 3, 4] [] f23b14) Q ts os := id rfl
def f23b16 : AQ := (.block 0 f23l15)
def f23r17 : List AI := [⟨none, (.mov 4 (.v (.k (.c (.int .i64 0)))))⟩]
def f23b18 : AQ := (.seq (.region f23r17) f23b16)
def f23b19 : AQ := (.seq f23b18 f23b2)
def f23r20 : List AI := [⟨none, (.mov 3 (.v (.k (.c (.str [])))))⟩]
def f23b21 : AQ := (.seq (.region f23r20) f23b19)
def f23r22 : List AI := [⟨none, (.mov 2 (.v (.k (.c (.str [])))))⟩]
def f23b23 : AQ := (.seq (.region f23r22) f23b21)
def f23 : AQ := f23b23
theorem hf23 : cFunc Tryz.prog 23 = some ⟨24, f23.erase, [(RX.t 2)]⟩ := by kernel_rfl
theorem okf23 : f23.ok = true := by kernel_rfl
def f24r1 : List AI := [⟨none, (.load 65 4 true (.t 8))⟩, ⟨none, (.store 4 (.t 2) (.t 65))⟩, ⟨none, (.mov 3 (.v (.k (.c (.int .i64 0)))))⟩]
def f24b2 : AQ := (.seq (.region f24r1) .ret)
def f24r3 : List AI := [⟨none, (.faddr 60 2 (.t 1))⟩, ⟨none, (.load 61 1 false (.t 60))⟩, ⟨none, (.mov 62 (.t 5))⟩, ⟨none, (.bin 63 .sub (.t 61) (.t 62))⟩, ⟨none, (.faddr 64 2 (.t 8))⟩, ⟨none, (.store 1 (.t 64) (.t 63))⟩]
def f24b4 : AQ := (.cond (.t 59) (.region f24r3) .skip)
def f24r5 : List AI := [⟨none, (.faddr 57 2 (.t 1))⟩, ⟨none, (.load 58 1 false (.t 57))⟩, ⟨none, (.bin 59 .geq (.t 58) (.v (.k (.c (.int .i64 0)))))⟩]
def f24b6 : AQ := (.seq (.region f24r5) f24b4)
def f24b7 : AQ := (.seq f24b6 f24b2)
def f24r8 : List AI := [⟨none, (.load 53 4 true (.t 1))⟩, ⟨none, (.mov 54 (.t 5))⟩, ⟨none, (.call (some 55) 39 [(.t 53), (.t 54)])⟩, (AI.mk none (.build 56 [(.list 0 (some true) []), (.list 0 (some true) []), (.int .i64 0), (.bool false)] [(0, (1, (.t 55))), (2, (1, (.v (.k (.c (.int .i64 (-1)))))))])), ⟨none, (.alloc 8 27 [(.list 0 (some true) []), (.list 0 (some true) []), (.int .i64 0), (.bool false)])⟩, ⟨none, (.store 4 (.t 8) (.t 56))⟩]
def f24b9 : AQ := (.seq (.region f24r8) f24b7)
def f24r10 : List AI := [⟨none, (.mov 51 (.t 6))⟩, (AI.mk none (.build 52 [(.list 0 (some true) []), (.list 0 (some true) []), (.int .i64 0), (.bool false)] [(0, (1, (.t 51))), (2, (1, (.v (.k (.c (.int .i64 (-1))))))), (3, (1, (.v (.k (.c (.bool true))))))])), ⟨none, (.store 4 (.t 2) (.t 52))⟩, ⟨none, (.mov 3 (.v (.k (.c (.int .i64 8)))))⟩]
def f24b11 : AQ := (.seq (.region f24r10) .ret)
def f24r12 : List AI := [⟨none, (.mov 37 (.t 6))⟩, ⟨none, (.faddr 38 0 (.t 7))⟩, ⟨none, (.load 39 1 false (.t 38))⟩, ⟨none, (.faddr 40 1 (.t 7))⟩, ⟨none, (.load 41 1 false (.t 40))⟩, ⟨none, (.slstr 42 (.t 41) none (some (.v (.k (.c (.int .i64 8))))))⟩, ⟨none, (.mov 43 (.t 6))⟩, ⟨none, (.faddr 44 0 (.t 7))⟩, ⟨none, (.load 45 1 false (.t 44))⟩, ⟨none, (.iaddr 46 1 (.t 43) (.t 45))⟩, ⟨none, (.load 47 1 false (.t 46))⟩, ⟨none, (.slstr 48 (.t 47) (some (.v (.k (.c (.int .i64 8))))) none)⟩, ⟨none, (.bin 49 .add (.t 42) (.t 48))⟩, ⟨none, (.iaddr 50 1 (.t 37) (.t 39))⟩, ⟨none, (.store 1 (.t 50) (.t 49))⟩]
def f24b13 : AQ := (.seq (.draw f24r12 [[], [], [1], [], [3], [4], [], [], [7], [6, 8], [9], [10], [5, 11], [0, 2, 0, 1, 2, 3, 4, 5, 6, 7, 8, 9, 10, 11, 12], [13, 12, 0, 1, 2, 3, 4, 5, 6, 7, 8, 9, 10, 11, 12]]) f24b11)
def f24r14 : List AI := [⟨none, (.faddr 31 1 (.t 1))⟩, ⟨none, (.load 32 1 false (.t 31))⟩, ⟨none, (.faddr 33 2 (.t 1))⟩, ⟨none, (.load 34 1 false (.t 33))⟩, ⟨none, (.iaddr 35 2 (.t 32) (.t 34))⟩, ⟨none, (.load 36 2 true (.t 35))⟩, ⟨none, (.alloc 7 57 [(.int .i64 0), (.str [])])⟩, ⟨none, (.store 2 (.t 7) (.t 36))⟩]
def f24b15 : AQ := (.seq (.region f24r14) f24b13)
def f24r16 : List AI := [⟨none, (.load 27 4 true (.t 1))⟩, ⟨none, (.faddr 28 2 (.t 1))⟩, ⟨none, (.load 29 1 false (.t 28))⟩, ⟨none, (.call (some 30) 39 [(.t 27), (.t 29)])⟩, ⟨none, (.mov 6 (.t 30))⟩]
def f24b17 : AQ := (.seq (.region f24r16) f24b15)
def f24b18 : AQ := (.cond (.t 26) f24b17 .skip)
def f24r19 : List AI := [⟨none, (.faddr 18 2 (.t 1))⟩, ⟨none, (.load 19 1 false (.t 18))⟩, ⟨none, (.bin 20 .geq (.t 19) (.v (.k (.c (.int .i64 0)))))⟩, ⟨none, (.mov 21 (.t 20))⟩, ⟨(some (21, true)), (.faddr 22 2 (.t 1))⟩, ⟨(some (21, true)), (.load 23 1 false (.t 22))⟩, ⟨(some (21, true)), (.mov 24 (.t 5))⟩, ⟨(some (21, true)), (.bin 25 .lss (.t 23) (.t 24))⟩, ⟨none, (.pick 26 (.t 21) (.t 25) (.v (.k (.c (.bool false)))))⟩]
def f24b20 : AQ := (.seq (.region f24r19) f24b18)
def f24b21 : AQ := (.seq f24b20 f24b9)
def f24r22 : List AI := [⟨none, (.faddr 15 1 (.t 1))⟩, ⟨none, (.load 16 1 false (.t 15))⟩, ⟨none, (.len 17 (.t 16))⟩, ⟨none, (.mov 5 (.t 17))⟩]
def f24b23 : AQ := (.seq (.region f24r22) f24b21)
def f24r24 : List AI := [⟨none, (.build 13 [(.list 0 (some true) []), (.list 0 (some true) []), (.int .i64 0), (.bool false)] [])⟩, ⟨none, (.mov 14 (.t 4))⟩, ⟨none, (.store 4 (.t 2) (.t 13))⟩, ⟨none, (.mov 3 (.t 14))⟩]
def f24b25 : AQ := (.seq (.region f24r24) .ret)
def f24b26 : AQ := (.cond (.t 12) f24b25 .skip)
def f24r27 : List AI := [⟨none, (.mov 11 (.t 4))⟩, ⟨none, (.bin 12 .neq (.t 11) (.v (.k (.c (.int .i64 0)))))⟩]
def f24b28 : AQ := (.seq (.region f24r27) f24b26)
def f24b29 : AQ := (.seq f24b28 f24b23)
def f24r30 : List AI := [⟨none, (.load 9 4 true (.t 1))⟩, ⟨none, (.call (some 10) 33 [(.t 9)])⟩, ⟨none, (.mov 4 (.t 10))⟩]
def f24b31 : AQ := (.seq (.region f24r30) f24b29)
def f24r32 : List AI := [⟨none, (.box 1 27 (.t 0))⟩, ⟨none, (.alloc 2 27 [(.list 0 (some true) []), (.list 0 (some true) []), (.int .i64 0), (.bool false)])⟩, ⟨none, (.mov 3 (.v (.k (.c (.int .i64 0)))))⟩]
def f24b33 : AQ := (.seq (.region f24r32) f24b31)
def f24 : AQ := f24b33
theorem hf24 : cFunc Tryz.prog 24 = some ⟨66, f24.erase, [(RX.cell 2 4 true), (RX.t 3)]⟩ := by kernel_rfl
theorem okf24 : f24.ok = true := by kernel_rfl
def f25r1 : List AI := [⟨none, (.mov 19 (.t 3))⟩, ⟨none, (.mov 2 (.t 19))⟩]
def f25b2 : AQ := (.seq (.region f25r1) .ret)
def f25r3 : List AI := [⟨none, (.mov 9 (.t 4))⟩, ⟨none, (.bin 10 .add (.t 9) (.v (.k (.c (.int .i64 1)))))⟩, ⟨none, (.mov 4 (.t 10))⟩]
def f25r4 : List AI := [⟨none, (.mov 11 (.t 3))⟩, ⟨none, (.mov 12 (.t 0))⟩, ⟨none, (.mov 13 (.t 4))⟩, ⟨none, (.iaddr 14 1 (.t 12) (.t 13))⟩, ⟨none, (.load 15 1 false (.t 14))⟩, ⟨none, (.call (some 16) 26 [(.t 15)])⟩, ⟨none, (.lenS 17 (.t 16))⟩, ⟨none, (.bin 18 .add (.t 11) (.t 17))⟩, ⟨none, (.mov 3 (.t 18))⟩]
def f25b5 : AQ := (.block 1 (.region f25r4))
def f25b6 : AQ := (.seq f25b5 (.region f25r3))
def f25b7 : AQ := (.cond (.t 8) .skip (.exit 0))
def f25r8 : List AI := [⟨none, (.mov 5 (.t 4))⟩, ⟨none, (.mov 6 (.t 0))⟩, ⟨none, (.len 7 (.t 6))⟩, ⟨none, (.bin 8 .lss (.t 5) (.t 7))⟩]
def f25b9 : AQ := (.seq (.region f25r8) f25b7)
def f25b10 : AQ := (.seq f25b9 f25b6)
def f25l11 : AQ := .loop [0, 3, 4] [] f25b10
theorem uf25l11 (P ts os Q) : awl P f25l11 Q ts os = awl P (.loop [0, 3, 4] [] f25b10) Q ts os := id rfl
def f25b12 : AQ := (.block 0 f25l11)
def f25r13 : List AI := [⟨none, (.mov 4 (.v (.k (.c (.int .i64 0)))))⟩]
def f25b14 : AQ := (.seq (.region f25r13) f25b12)
def f25b15 : AQ := (.seq f25b14 f25b2)
def f25r16 : List AI := [⟨none, (.mov 3 (.v (.k (.c (.int .i64 0)))))⟩]
def f25b17 : AQ := (.seq (.region f25r16) f25b15)
def f25r18 : List AI := [⟨none, (.mov 2 (.v (.k (.c (.int .i64 0)))))⟩]
def f25b19 : AQ := (.seq (.region f25r18) f25b17)
def f25 : AQ := f25b19
theorem hf25 : cFunc Tryz.prog 25 = some ⟨20, f25.erase, [(RX.t 2)]⟩ := by kernel_rfl
theorem okf25 : f25.ok = true := by kernel_rfl
def f26r1 : List AI := [⟨none, (.mov 3 (.t 0))⟩, ⟨none, (.lenS 4 (.t 3))⟩, ⟨none, (.call (some 5) 40 [(.t 4)])⟩, ⟨none, (.mov 6 (.t 0))⟩, ⟨none, (.bin 7 .add (.t 5) (.t 6))⟩, ⟨none, (.mov 2 (.t 7))⟩]
def f26b2 : AQ := (.seq (.region f26r1) .ret)
def f26r3 : List AI := [⟨none, (.mov 2 (.v (.k (.c (.str [])))))⟩]
def f26b4 : AQ := (.seq (.region f26r3) f26b2)
def f26 : AQ := f26b4
theorem hf26 : cFunc Tryz.prog 26 = some ⟨8, f26.erase, [(RX.t 2)]⟩ := by kernel_rfl
theorem okf26 : f26.ok = true := by kernel_rfl
def f27r1 : List AI := [⟨none, (.mov 2 (.v (.k (.c (.int .i64 0)))))⟩]
def f27b2 : AQ := (.seq (.region f27r1) .ret)
def f27r3 : List AI := [⟨none, (.mov 2 (.v (.k (.c (.int .i64 1)))))⟩]
def f27b4 : AQ := (.seq (.region f27r3) .ret)
def f27b5 : AQ := (.cond (.t 23) f27b4 .skip)
def f27r6 : List AI := [⟨none, (.mov 21 (.t 4))⟩, ⟨none, (.mov 22 (.t 3))⟩, ⟨none, (.bin 23 .gtr (.t 21) (.t 22))⟩]
def f27b7 : AQ := (.seq (.region f27r6) f27b5)
def f27b8 : AQ := (.seq f27b7 f27b2)
def f27r9 : List AI := [⟨none, (.mov 2 (.v (.k (.c (.int .i64 (-1))))))⟩]
def f27b10 : AQ := (.seq (.region f27r9) .ret)
def f27b11 : AQ := (.cond (.t 20) f27b10 .skip)
def f27r12 : List AI := [⟨none, (.mov 15 (.t 3))⟩, ⟨none, (.bin 16 .lss (.t 15) (.v (.k (.c (.int .i64 0)))))⟩, ⟨none, (.mov 17 (.t 16))⟩, ⟨(some (17, true)), (.mov 18 (.t 4))⟩, ⟨(some (17, true)), (.bin 19 .lss (.t 18) (.v (.k (.c (.int .i64 0)))))⟩, ⟨none, (.pick 20 (.t 17) (.t 19) (.v (.k (.c (.bool false)))))⟩]
def f27b13 : AQ := (.seq (.region f27r12) f27b11)
def f27b14 : AQ := (.seq f27b13 f27b8)
def f27r15 : List AI := [⟨none, (.faddr 10 0 (.t 1))⟩, ⟨none, (.load 11 1 false (.t 10))⟩, ⟨none, (.iaddr 12 1 (.t 11) (.v (.k (.c (.int .i64 1)))))⟩, ⟨none, (.load 13 1 false (.t 12))⟩, ⟨none, (.call (some 14) 37 [(.t 13)])⟩, ⟨none, (.mov 4 (.t 14))⟩]
def f27b16 : AQ := (.seq (.region f27r15) f27b14)
def f27r17 : List AI := [⟨none, (.faddr 5 0 (.t 1))⟩, ⟨none, (.load 6 1 false (.t 5))⟩, ⟨none, (.iaddr 7 1 (.t 6) (.v (.k (.c (.int .i64 0)))))⟩, ⟨none, (.load 8 1 false (.t 7))⟩, ⟨none, (.call (some 9) 37 [(.t 8)])⟩, ⟨none, (.mov 3 (.t 9))⟩]
def f27b18 : AQ := (.seq (.region f27r17) f27b16)
def f27r19 : List AI := [⟨none, (.box 1 27 (.t 0))⟩, ⟨none, (.mov 2 (.v (.k (.c (.int .i64 0)))))⟩]
def f27b20 : AQ := (.seq (.region f27r19) f27b18)
def f27 : AQ := f27b20
theorem hf27 : cFunc Tryz.prog 27 = some ⟨24, f27.erase, [(RX.t 2)]⟩ := by kernel_rfl
theorem okf27 : f27.ok = true := by kernel_rfl
def f28r1 : List AI := [⟨none, (.load 106 3 true (.t 5))⟩, ⟨none, (.store 3 (.t 2) (.t 106))⟩, ⟨none, (.mov 3 (.v (.k (.c (.int .i64 0)))))⟩]
def f28b2 : AQ := (.seq (.region f28r1) .ret)
def f28r3 : List AI := [⟨none, (.faddr 99 0 (.t 5))⟩, ⟨none, (.load 100 1 false (.t 99))⟩, ⟨none, (.mov 101 (.t 12))⟩, ⟨none, (.bslice 102 9 1 [(.str [])] 1 [(0, (.t 101))])⟩, ⟨none, (.append 103 9 1 16 (.t 100) (.t 102))⟩, ⟨none, (.mov 104 (.t 13))⟩, ⟨none, (.faddr 105 0 (.t 5))⟩, ⟨none, (.store 1 (.t 105) (.t 103))⟩, ⟨none, (.mov 11 (.t 104))⟩]
def f28r4 : List AI := [⟨none, (.build 98 [(.list 0 (some true) []), (.str []), (.int .i64 0)] [])⟩, ⟨none, (.store 3 (.t 2) (.t 98))⟩, ⟨none, (.mov 3 (.v (.k (.c (.int .i64 22)))))⟩]
def f28b5 : AQ := (.seq (.region f28r4) .ret)
def f28b6 : AQ := (.cond (.t 97) f28b5 .skip)
def f28r7 : List AI := [⟨none, (.mov 85 (.t 14))⟩, ⟨none, (.un 86 .not (.t 85))⟩, ⟨none, (.mov 87 (.t 86))⟩, ⟨(some (87, false)), (.mov 88 (.t 12))⟩, ⟨(some (87, false)), (.lenS 89 (.t 88))⟩, ⟨(some (87, false)), (.bin 90 .gtr (.t 89) (.v (.k (.c (.int .i64 2000)))))⟩, ⟨none, (.pick 91 (.t 87) (.v (.k (.c (.bool true)))) (.t 90))⟩, ⟨none, (.mov 92 (.t 91))⟩, ⟨(some (92, false)), (.faddr 93 0 (.t 5))⟩, ⟨(some (92, false)), (.load 94 1 false (.t 93))⟩, ⟨(some (92, false)), (.len 95 (.t 94))⟩, ⟨(some (92, false)), (.bin 96 .eql (.t 95) (.v (.k (.c (.int .i64 500)))))⟩, ⟨none, (.pick 97 (.t 92) (.v (.k (.c (.bool true)))) (.t 96))⟩]
def f28b8 : AQ := (.seq (.region f28r7) f28b6)
def f28b9 : AQ := (.seq f28b8 (.region f28r3))
def f28r10 : List AI := [⟨none, (.mov 80 (.t 11))⟩, ⟨none, (.call (some 81) 43 [(.t 80)])⟩, ⟨none, (.mov 79 (.t 81))⟩, ⟨none, (.extr 82 (.t 79) 0)⟩, ⟨none, (.extr 83 (.t 79) 1)⟩, ⟨none, (.extr 84 (.t 79) 2)⟩, ⟨none, (.mov 12 (.t 82))⟩, ⟨none, (.mov 13 (.t 83))⟩, ⟨none, (.mov 14 (.t 84))⟩]
def f28b11 : AQ := (.seq (.region f28r10) f28b9)
def f28b12 : AQ := (.block 1 f28b11)
def f28b13 : AQ := (.cond (.t 78) .skip (.exit 0))
def f28r14 : List AI := [⟨none, (.mov 77 (.t 11))⟩, ⟨none, (.bin 78 .neq (.t 77) (.v (.k (.c (.str [])))))⟩]
def f28b15 : AQ := (.seq (.region f28r14) f28b13)
def f28b16 : AQ := (.seq f28b15 f28b12)
def f28l17 : AQ := .loop [2, 5, 11] [2, 5, 103] f28b16
theorem uf28l17 (P ts os Q) : awl P f28l17 Q ts os = awl P (.loop [2, 5, 11] [2, 5, 103] f28b16) Q ts os := id rfl
def f28b18 : AQ := (.block 0 f28l17)
def f28r19 : List AI := [⟨none, (.faddr 75 1 (.t 5))⟩, ⟨none, (.load 76 1 false (.t 75))⟩, ⟨none, (.mov 11 (.t 76))⟩]
def f28b20 : AQ := (.seq (.region f28r19) f28b18)
def f28b21 : AQ := (.seq f28b20 f28b2)
def f28r22 : List AI := [⟨none, (.mov 71 (.t 10))⟩, ⟨none, (.mov 72 (.t 6))⟩, ⟨none, (.slstr 73 (.t 71) none (some (.t 72)))⟩, ⟨none, (.faddr 74 1 (.t 5))⟩, ⟨none, (.store 1 (.t 74) (.t 73))⟩]
def f28b23 : AQ := (.seq (.region f28r22) f28b21)
def f28r24 : List AI := [⟨none, (.build 70 [(.list 0 (some true) []), (.str []), (.int .i64 0)] [])⟩, ⟨none, (.store 3 (.t 2) (.t 70))⟩, ⟨none, (.mov 3 (.v (.k (.c (.int .i64 22)))))⟩]
def f28b25 : AQ := (.seq (.region f28r24) .ret)
def f28b26 : AQ := (.cond (.t 69) f28b25 .skip)
def f28r27 : List AI := [⟨none, (.mov 58 (.t 7))⟩, ⟨none, (.un 59 .not (.t 58))⟩, ⟨none, (.mov 60 (.t 59))⟩, ⟨(some (60, true)), (.mov 61 (.t 9))⟩, ⟨(some (60, true)), (.un 62 .not (.t 61))⟩, ⟨none, (.pick 63 (.t 60) (.t 62) (.v (.k (.c (.bool false)))))⟩, ⟨none, (.mov 64 (.t 63))⟩, ⟨(some (64, false)), (.mov 65 (.t 6))⟩, ⟨(some (64, false)), (.mov 66 (.t 10))⟩, ⟨(some (64, false)), (.lenS 67 (.t 66))⟩, ⟨(some (64, false)), (.bin 68 .gtr (.t 65) (.t 67))⟩, ⟨none, (.pick 69 (.t 64) (.v (.k (.c (.bool true)))) (.t 68))⟩]
def f28b28 : AQ := (.seq (.region f28r27) f28b26)
def f28b29 : AQ := (.seq f28b28 f28b23)
def f28r30 : List AI := [⟨none, (.faddr 54 0 (.t 1))⟩, ⟨none, (.load 55 1 false (.t 54))⟩, ⟨none, (.slice 56 1 (.t 55) (some (.v (.k (.c (.int .i64 2))))) none)⟩, ⟨none, (.call (some 57) 42 [(.t 56), (.v (.k (.c (.str []))))])⟩, ⟨none, (.mov 10 (.t 57))⟩]
def f28b31 : AQ := (.seq (.region f28r30) f28b29)
def f28r32 : List AI := [⟨none, (.mov 52 (.t 8))⟩, ⟨none, (.mov 6 (.t 52))⟩, ⟨none, (.faddr 53 2 (.t 5))⟩, ⟨none, (.store 1 (.t 53) (.v (.k (.c (.int .i64 1)))))⟩]
def f28b33 : AQ := (.cond (.t 51) (.region f28r32) .skip)
def f28r34 : List AI := [⟨none, (.mov 42 (.t 9))⟩, ⟨none, (.mov 43 (.t 42))⟩, ⟨(some (43, true)), (.mov 44 (.t 7))⟩, ⟨(some (43, true)), (.un 45 .not (.t 44))⟩, ⟨(some (43, true)), (.mov 46 (.t 45))⟩, ⟨(some (46, false)), (.mov 47 (.t 8))⟩, ⟨(some (46, false)), (.mov 48 (.t 6))⟩, ⟨(some (46, false)), (.bin 49 .gtr (.t 47) (.t 48))⟩, ⟨(some (43, true)), (.pick 50 (.t 46) (.v (.k (.c (.bool true)))) (.t 49))⟩, ⟨none, (.pick 51 (.t 43) (.t 50) (.v (.k (.c (.bool false)))))⟩]
def f28b35 : AQ := (.seq (.region f28r34) f28b33)
def f28b36 : AQ := (.seq f28b35 (.keep [1, 2, 5, 6, 7, 9] [1, 2, 5, 103] f28b31))
def f28r37 : List AI := [⟨none, (.faddr 35 0 (.t 1))⟩, ⟨none, (.load 36 1 false (.t 35))⟩, ⟨none, (.iaddr 37 1 (.t 36) (.v (.k (.c (.int .i64 1)))))⟩, ⟨none, (.load 38 1 false (.t 37))⟩, ⟨none, (.call (some 39) 41 [(.t 38)])⟩, ⟨none, (.mov 34 (.t 39))⟩, ⟨none, (.extr 40 (.t 34) 0)⟩, ⟨none, (.extr 41 (.t 34) 1)⟩, ⟨none, (.mov 8 (.t 40))⟩, ⟨none, (.mov 9 (.t 41))⟩]
def f28b38 : AQ := (.seq (.region f28r37) f28b36)
def f28r39 : List AI := [⟨none, (.faddr 27 0 (.t 1))⟩, ⟨none, (.load 28 1 false (.t 27))⟩, ⟨none, (.iaddr 29 1 (.t 28) (.v (.k (.c (.int .i64 0)))))⟩, ⟨none, (.load 30 1 false (.t 29))⟩, ⟨none, (.call (some 31) 41 [(.t 30)])⟩, ⟨none, (.mov 26 (.t 31))⟩, ⟨none, (.extr 32 (.t 26) 0)⟩, ⟨none, (.extr 33 (.t 26) 1)⟩, ⟨none, (.mov 6 (.t 32))⟩, ⟨none, (.mov 7 (.t 33))⟩]
def f28b40 : AQ := (.seq (.region f28r39) f28b38)
def f28r41 : List AI := [⟨none, (.alloc 5 53 [(.list 0 (some true) []), (.str []), (.int .i64 0)])⟩]
def f28b42 : AQ := (.seq (.region f28r41) f28b40)
def f28r43 : List AI := [⟨none, (.build 25 [(.list 0 (some true) []), (.str []), (.int .i64 0)] [])⟩, ⟨none, (.store 3 (.t 2) (.t 25))⟩, ⟨none, (.mov 3 (.v (.k (.c (.int .i64 22)))))⟩]
def f28b44 : AQ := (.seq (.region f28r43) .ret)
def f28b45 : AQ := (.cond (.t 24) f28b44 .skip)
def f28r46 : List AI := [⟨none, (.faddr 21 0 (.t 1))⟩, ⟨none, (.load 22 1 false (.t 21))⟩, ⟨none, (.len 23 (.t 22))⟩, ⟨none, (.bin 24 .leq (.t 23) (.v (.k (.c (.int .i64 2)))))⟩]
def f28b47 : AQ := (.seq (.region f28r46) f28b45)
def f28b48 : AQ := (.seq f28b47 f28b42)
def f28r49 : List AI := [⟨none, (.build 19 [(.list 0 (some true) []), (.str []), (.int .i64 0)] [])⟩, ⟨none, (.mov 20 (.t 4))⟩, ⟨none, (.store 3 (.t 2) (.t 19))⟩, ⟨none, (.mov 3 (.t 20))⟩]
def f28b50 : AQ := (.seq (.region f28r49) .ret)
def f28b51 : AQ := (.cond (.t 18) f28b50 .skip)
def f28r52 : List AI := [⟨none, (.mov 17 (.t 4))⟩, ⟨none, (.bin 18 .neq (.t 17) (.v (.k (.c (.int .i64 0)))))⟩]
def f28b53 : AQ := (.seq (.region f28r52) f28b51)
def f28r54 : List AI := [⟨none, (.load 15 4 true (.t 1))⟩, ⟨none, (.call (some 16) 35 [(.t 15)])⟩, ⟨none, (.mov 4 (.t 16))⟩]
def f28b55 : AQ := (.seq (.region f28r54) f28b53)
def f28b56 : AQ := (.seq f28b55 f28b48)
def f28r57 : List AI := [⟨none, (.box 1 27 (.t 0))⟩, ⟨none, (.alloc 2 53 [(.list 0 (some true) []), (.str []), (.int .i64 0)])⟩, ⟨none, (.mov 3 (.v (.k (.c (.int .i64 0)))))⟩]
def f28b58 : AQ := (.seq (.region f28r57) f28b56)
def f28 : AQ := f28b58
theorem hf28 : cFunc Tryz.prog 28 = some ⟨107, f28.erase, [(RX.cell 2 3 true), (RX.t 3)]⟩ := by kernel_rfl
theorem okf28 : f28.ok = true := by kernel_rfl
def f29r1 : List AI := [⟨none, (.mov 3 (.t 0))⟩, ⟨none, (.lenS 4 (.t 3))⟩, ⟨none, (.call (some 5) 44 [(.t 4)])⟩, ⟨none, (.mov 6 (.t 0))⟩, ⟨none, (.bin 7 .add (.t 5) (.t 6))⟩, ⟨none, (.mov 2 (.t 7))⟩]
def f29b2 : AQ := (.seq (.region f29r1) .ret)
def f29r3 : List AI := [⟨none, (.mov 2 (.v (.k (.c (.str [])))))⟩]
def f29b4 : AQ := (.seq (.region f29r3) f29b2)
def f29 : AQ := f29b4
theorem hf29 : cFunc Tryz.prog 29 = some ⟨8, f29.erase, [(RX.t 2)]⟩ := by kernel_rfl
theorem okf29 : f29.ok = true := by kernel_rfl
def f30r1 : List AI := [⟨none, (.load 50 4 true (.t 3))⟩, ⟨none, (.store 4 (.t 6) (.t 50))⟩, ⟨none, (.mov 7 (.v (.k (.c (.int .i64 0)))))⟩]
def f30b2 : AQ := (.seq (.region f30r1) .ret)
def f30r3 : List AI := [⟨none, (.faddr 37 1 (.t 3))⟩, ⟨none, (.load 38 1 false (.t 37))⟩, ⟨none, (.mov 39 (.t 1))⟩, ⟨none, (.mov 40 (.t 2))⟩, ⟨none, (.mov 41 (.t 2))⟩, ⟨none, (.lenS 42 (.t 41))⟩, ⟨none, (.bin 43 .sub (.v (.k (.c (.int .i64 16)))) (.t 42))⟩, ⟨none, (.call (some 44) 47 [(.v (.k (.c (.str [0])))), (.t 43)])⟩, ⟨none, (.bin 45 .add (.t 40) (.t 44))⟩, ⟨none, (.build 46 [(.int .i64 0), (.str [])] [(0, (1, (.t 39))), (1, (1, (.t 45)))])⟩, ⟨none, (.bslice 47 57 2 [(.int .i64 0), (.str [])] 1 [(0, (.t 46))])⟩, ⟨none, (.append 48 57 2 24 (.t 38) (.t 47))⟩, ⟨none, (.faddr 49 1 (.t 3))⟩, ⟨none, (.store 1 (.t 49) (.t 48))⟩]
def f30b4 : AQ := (.seq (.draw f30r3 [[], [0], [], [], [], [4], [5], [6], [3, 7], [2, 8], [9], [1, 10, 7], [0, 1, 2, 3, 4, 5, 6, 7, 8, 9, 10, 11], [12, 11, 11, 0, 1, 2, 3, 4, 5, 6, 7, 8, 9, 10, 11]]) f30b2)
def f30r5 : List AI := [⟨none, (.load 35 4 true (.t 3))⟩, ⟨none, (.call (some 36) 46 [(.t 35)])⟩, ⟨none, (.store 4 (.t 3) (.t 36))⟩]
def f30b6 : AQ := (.seq (.region f30r5) f30b4)
def f30r7 : List AI := [⟨none, (.build 34 [(.list 0 (some true) []), (.list 0 (some true) []), (.int .i64 0), (.bool false)] [])⟩, ⟨none, (.store 4 (.t 6) (.t 34))⟩, ⟨none, (.mov 7 (.v (.k (.c (.int .i64 6)))))⟩]
def f30b8 : AQ := (.seq (.region f30r7) .ret)
def f30b9 : AQ := (.cond (.t 33) f30b8 .skip)
def f30r10 : List AI := [⟨none, (.faddr 30 1 (.t 3))⟩, ⟨none, (.load 31 1 false (.t 30))⟩, ⟨none, (.len 32 (.t 31))⟩, ⟨none, (.bin 33 .eql (.t 32) (.v (.k (.c (.int .i64 512)))))⟩]
def f30b11 : AQ := (.seq (.region f30r10) f30b9)
def f30b12 : AQ := (.seq f30b11 f30b6)
def f30r13 : List AI := [⟨none, (.build 29 [(.list 0 (some true) []), (.list 0 (some true) []), (.int .i64 0), (.bool false)] [])⟩, ⟨none, (.store 4 (.t 6) (.t 29))⟩, ⟨none, (.mov 7 (.v (.k (.c (.int .i64 1)))))⟩]
def f30b14 : AQ := (.seq (.region f30r13) .ret)
def f30b15 : AQ := (.cond (.t 28) f30b14 .skip)
def f30r16 : List AI := [⟨none, (.mov 15 (.t 1))⟩, ⟨none, (.bin 16 .lss (.t 15) (.v (.k (.c (.int .i64 0)))))⟩, ⟨none, (.mov 17 (.t 16))⟩, ⟨(some (17, false)), (.mov 18 (.t 1))⟩, ⟨(some (17, false)), (.faddr 19 0 (.t 3))⟩, ⟨(some (17, false)), (.load 20 1 false (.t 19))⟩, ⟨(some (17, false)), (.len 21 (.t 20))⟩, ⟨(some (17, false)), (.bin 22 .geq (.t 18) (.t 21))⟩, ⟨none, (.pick 23 (.t 17) (.v (.k (.c (.bool true)))) (.t 22))⟩, ⟨none, (.mov 24 (.t 23))⟩, ⟨(some (24, false)), (.mov 25 (.t 2))⟩, ⟨(some (24, false)), (.lenS 26 (.t 25))⟩, ⟨(some (24, false)), (.bin 27 .gtr (.t 26) (.v (.k (.c (.int .i64 16)))))⟩, ⟨none, (.pick 28 (.t 24) (.v (.k (.c (.bool true)))) (.t 27))⟩]
def f30b17 : AQ := (.seq (.region f30r16) f30b15)
def f30b18 : AQ := (.seq f30b17 f30b12)
def f30r19 : List AI := [⟨none, (.build 13 [(.list 0 (some true) []), (.list 0 (some true) []), (.int .i64 0), (.bool false)] [])⟩, ⟨none, (.mov 14 (.t 8))⟩, ⟨none, (.store 4 (.t 6) (.t 13))⟩, ⟨none, (.mov 7 (.t 14))⟩]
def f30b20 : AQ := (.seq (.region f30r19) .ret)
def f30b21 : AQ := (.cond (.t 12) f30b20 .skip)
def f30r22 : List AI := [⟨none, (.mov 11 (.t 8))⟩, ⟨none, (.bin 12 .neq (.t 11) (.v (.k (.c (.int .i64 0)))))⟩]
def f30b23 : AQ := (.seq (.region f30r22) f30b21)
def f30r24 : List AI := [⟨none, (.load 9 4 true (.t 3))⟩, ⟨none, (.call (some 10) 45 [(.t 9)])⟩, ⟨none, (.mov 8 (.t 10))⟩]
def f30b25 : AQ := (.seq (.region f30r24) f30b23)
def f30b26 : AQ := (.seq f30b25 f30b18)
def f30r27 : List AI := [⟨none, (.box 3 27 (.t 0))⟩, ⟨none, (.alloc 6 27 [(.list 0 (some true) []), (.list 0 (some true) []), (.int .i64 0), (.bool false)])⟩, ⟨none, (.mov 7 (.v (.k (.c (.int .i64 0)))))⟩]
def f30b28 : AQ := (.seq (.region f30r27) f30b26)
def f30 : AQ := f30b28
theorem hf30 : cFunc Tryz.prog 30 = some ⟨51, f30.erase, [(RX.cell 6 4 true), (RX.t 7)]⟩ := by kernel_rfl
theorem okf30 : f30.ok = true := by kernel_rfl
def f31r1 : List AI := [⟨none, (.load 85 4 true (.t 1))⟩, ⟨none, (.store 4 (.t 2) (.t 85))⟩, ⟨none, (.mov 3 (.v (.k (.c (.int .i64 0)))))⟩]
def f31b2 : AQ := (.seq (.region f31r1) .ret)
def f31r3 : List AI := [⟨none, (.faddr 80 2 (.t 1))⟩, ⟨none, (.load 81 1 false (.t 80))⟩, ⟨none, (.mov 82 (.t 5))⟩, ⟨none, (.bin 83 .sub (.t 81) (.t 82))⟩, ⟨none, (.faddr 84 2 (.t 1))⟩, ⟨none, (.store 1 (.t 84) (.t 83))⟩]
def f31b4 : AQ := (.cond (.t 79) (.region f31r3) .skip)
def f31r5 : List AI := [⟨none, (.faddr 77 2 (.t 1))⟩, ⟨none, (.load 78 1 false (.t 77))⟩, ⟨none, (.bin 79 .geq (.t 78) (.v (.k (.c (.int .i64 0)))))⟩]
def f31b6 : AQ := (.seq (.region f31r5) f31b4)
def f31b7 : AQ := (.seq f31b6 f31b2)
def f31r8 : List AI := [⟨none, (.faddr 76 1 (.t 1))⟩, ⟨none, (.store 1 (.t 76) (.v (.k (.c (.list 0 (some true) [])))))⟩]
def f31b9 : AQ := (.seq (.region f31r8) f31b7)
def f31r10 : List AI := [⟨none, (.load 74 4 true (.t 1))⟩, ⟨none, (.call (some 75) 48 [(.t 74)])⟩, ⟨none, (.store 4 (.t 2) (.t 75))⟩, ⟨none, (.mov 3 (.v (.k (.c (.int .i64 8)))))⟩]
def f31b11 : AQ := (.seq (.region f31r10) .ret)
def f31r12 : List AI := [⟨none, (.faddr 58 0 (.t 1))⟩, ⟨none, (.load 59 1 false (.t 58))⟩, ⟨none, (.faddr 60 0 (.t 9))⟩, ⟨none, (.load 61 1 false (.t 60))⟩, ⟨none, (.faddr 62 1 (.t 9))⟩, ⟨none, (.load 63 1 false (.t 62))⟩, ⟨none, (.slstr 64 (.t 63) none (some (.v (.k (.c (.int .i64 8))))))⟩, ⟨none, (.faddr 65 0 (.t 1))⟩, ⟨none, (.load 66 1 false (.t 65))⟩, ⟨none, (.faddr 67 0 (.t 9))⟩, ⟨none, (.load 68 1 false (.t 67))⟩, ⟨none, (.iaddr 69 1 (.t 66) (.t 68))⟩, ⟨none, (.load 70 1 false (.t 69))⟩, ⟨none, (.slstr 71 (.t 70) (some (.v (.k (.c (.int .i64 8))))) none)⟩, ⟨none, (.bin 72 .add (.t 64) (.t 71))⟩, ⟨none, (.iaddr 73 1 (.t 59) (.t 61))⟩, ⟨none, (.store 1 (.t 73) (.t 72))⟩]
def f31b13 : AQ := (.seq (.draw f31r12 [[], [0], [], [2], [], [4], [5], [], [7], [], [9], [8, 10], [11], [12], [6, 13], [1, 3, 0, 1, 2, 3, 4, 5, 6, 7, 8, 9, 10, 11, 12, 13, 14], [15, 14, 0, 1, 2, 3, 4, 5, 6, 7, 8, 9, 10, 11, 12, 13, 14]]) f31b11)
def f31r14 : List AI := [⟨none, (.faddr 53 1 (.t 1))⟩, ⟨none, (.load 54 1 false (.t 53))⟩, ⟨none, (.mov 55 (.t 5))⟩, ⟨none, (.iaddr 56 2 (.t 54) (.t 55))⟩, ⟨none, (.load 57 2 true (.t 56))⟩, ⟨none, (.alloc 9 57 [(.int .i64 0), (.str [])])⟩, ⟨none, (.store 2 (.t 9) (.t 57))⟩]
def f31b15 : AQ := (.seq (.region f31r14) f31b13)
def f31b16 : AQ := (.cond (.t 52) f31b15 .skip)
def f31r17 : List AI := [⟨none, (.mov 51 (.t 6))⟩, ⟨none, (.un 52 .not (.t 51))⟩]
def f31b18 : AQ := (.seq (.region f31r17) f31b16)
def f31b19 : AQ := (.seq f31b18 f31b9)
def f31r20 : List AI := [⟨none, (.bin 50 .add (.t 39) (.v (.k (.c (.int .i64 1)))))⟩, ⟨none, (.mov 39 (.t 50))⟩]
def f31r21 : List AI := [⟨none, (.faddr 43 0 (.t 1))⟩, ⟨none, (.load 44 1 false (.t 43))⟩, ⟨none, (.faddr 45 0 (.t 8))⟩, ⟨none, (.load 46 1 false (.t 45))⟩, ⟨none, (.faddr 47 1 (.t 8))⟩, ⟨none, (.load 48 1 false (.t 47))⟩, ⟨none, (.iaddr 49 1 (.t 44) (.t 46))⟩, ⟨none, (.store 1 (.t 49) (.t 48))⟩]
def f31r22 : List AI := [⟨none, (.iaddr 41 2 (.t 37) (.t 39))⟩, ⟨none, (.load 42 2 true (.t 41))⟩, ⟨none, (.alloc 8 57 [(.int .i64 0), (.str [])])⟩, ⟨none, (.store 2 (.t 8) (.t 42))⟩]
def f31b23 : AQ := (.seq (.region f31r22) (.region f31r21))
def f31b24 : AQ := (.block 1 f31b23)
def f31b25 : AQ := (.seq f31b24 (.region f31r20))
def f31b26 : AQ := (.cond (.t 40) .skip (.exit 0))
def f31b27 : AQ := (.seq f31b26 f31b25)
def f31r28 : List AI := [⟨none, (.bin 40 .lss (.t 39) (.t 38))⟩]
def f31b29 : AQ := (.seq (.region f31r28) f31b27)
def f31l30 : AQ := .loop [1, 2, 5, 6, 37, 38, 39] [1, 2, 17, 75, 18000, 18001, 18002, 76000, 76001, 76002] f31b29
theorem uf31l30 (P ts os Q) : awl P f31l30 Q ts os = awl P (.loop [1, 2, 5, 6, 37, 38, 39] [1, 2, 17, 75, 18000, 18001, 18002, 76000, 76001, 76002] f31b29) Q ts os := id rfl
def f31b31 : AQ := (.block 0 f31l30)
def f31r32 : List AI := [⟨none, (.faddr 34 1 (.t 1))⟩, ⟨none, (.load 35 1 false (.t 34))⟩, ⟨none, (.mov 36 (.t 5))⟩, ⟨none, (.slice 37 2 (.t 35) none (some (.t 36)))⟩, ⟨none, (.len 38 (.t 37))⟩, ⟨none, (.mov 39 (.v (.k (.c (.int .i64 0)))))⟩]
def f31b33 : AQ := (.seq (.region f31r32) f31b31)
def f31b34 : AQ := (.seq f31b33 f31b19)
def f31r35 : List AI := [⟨none, (.faddr 32 2 (.t 1))⟩, ⟨none, (.load 33 1 false (.t 32))⟩, ⟨none, (.mov 5 (.t 33))⟩]
def f31b36 : AQ := (.cond (.t 31) (.region f31r35) .skip)
def f31r37 : List AI := [⟨none, (.mov 30 (.t 6))⟩, ⟨none, (.un 31 .not (.t 30))⟩]
def f31b38 : AQ := (.seq (.region f31r37) f31b36)
def f31b39 : AQ := (.seq f31b38 f31b34)
def f31r40 : List AI := [⟨none, (.faddr 21 2 (.t 1))⟩, ⟨none, (.load 22 1 false (.t 21))⟩, ⟨none, (.bin 23 .eql (.t 22) (.v (.k (.c (.int .i64 (-1))))))⟩, ⟨none, (.mov 24 (.t 23))⟩, ⟨(some (24, false)), (.faddr 25 2 (.t 1))⟩, ⟨(some (24, false)), (.load 26 1 false (.t 25))⟩, ⟨(some (24, false)), (.mov 27 (.t 5))⟩, ⟨(some (24, false)), (.bin 28 .geq (.t 26) (.t 27))⟩, ⟨none, (.pick 29 (.t 24) (.v (.k (.c (.bool true)))) (.t 28))⟩, ⟨none, (.mov 6 (.t 29))⟩]
def f31b41 : AQ := (.seq (.region f31r40) f31b39)
def f31r42 : List AI := [⟨none, (.faddr 18 1 (.t 1))⟩, ⟨none, (.load 19 1 false (.t 18))⟩, ⟨none, (.len 20 (.t 19))⟩, ⟨none, (.mov 5 (.t 20))⟩]
def f31b43 : AQ := (.seq (.region f31r42) f31b41)
def f31r44 : List AI := [⟨none, (.load 16 4 true (.t 1))⟩, ⟨none, (.call (some 17) 46 [(.t 16)])⟩, ⟨none, (.store 4 (.t 1) (.t 17))⟩]
def f31b45 : AQ := (.seq (.region f31r44) (.frz 18001 f31b43))
def f31r46 : List AI := [⟨none, (.build 14 [(.list 0 (some true) []), (.list 0 (some true) []), (.int .i64 0), (.bool false)] [])⟩, ⟨none, (.mov 15 (.t 4))⟩, ⟨none, (.store 4 (.t 2) (.t 14))⟩, ⟨none, (.mov 3 (.t 15))⟩]
def f31b47 : AQ := (.seq (.region f31r46) .ret)
def f31b48 : AQ := (.cond (.t 13) f31b47 .skip)
def f31r49 : List AI := [⟨none, (.mov 12 (.t 4))⟩, ⟨none, (.bin 13 .neq (.t 12) (.v (.k (.c (.int .i64 0)))))⟩]
def f31b50 : AQ := (.seq (.region f31r49) f31b48)
def f31r51 : List AI := [⟨none, (.load 10 4 true (.t 1))⟩, ⟨none, (.call (some 11) 45 [(.t 10)])⟩, ⟨none, (.mov 4 (.t 11))⟩]
def f31b52 : AQ := (.seq (.region f31r51) f31b50)
def f31b53 : AQ := (.seq f31b52 f31b45)
def f31r54 : List AI := [⟨none, (.box 1 27 (.t 0))⟩, ⟨none, (.alloc 2 27 [(.list 0 (some true) []), (.list 0 (some true) []), (.int .i64 0), (.bool false)])⟩, ⟨none, (.mov 3 (.v (.k (.c (.int .i64 0)))))⟩]
def f31b55 : AQ := (.seq (.region f31r54) f31b53)
def f31 : AQ := f31b55
theorem hf31 : cFunc Tryz.prog 31 = some ⟨86, f31.erase, [(RX.cell 2 4 true), (RX.t 3)]⟩ := by kernel_rfl
theorem okf31 : f31.ok = true := by kernel_rfl
def f33r1 : List AI := [⟨none, (.mov 12 (.t 3))⟩, ⟨none, (.mov 2 (.t 12))⟩]
def f33b2 : AQ := (.seq (.region f33r1) .ret)
def f33r3 : List AI := [⟨none, (.mov 2 (.v (.k (.c (.int .i64 8)))))⟩]
def f33b4 : AQ := (.seq (.region f33r3) .ret)
def f33b5 : AQ := (.cond (.t 11) f33b4 .skip)
def f33r6 : List AI := [⟨none, (.mov 6 (.t 3))⟩, ⟨none, (.bin 7 .eql (.t 6) (.v (.k (.c (.int .i64 0)))))⟩, ⟨none, (.mov 8 (.t 7))⟩, ⟨(some (8, true)), (.faddr 9 3 (.t 1))⟩, ⟨(some (8, true)), (.load 10 1 false (.t 9))⟩, ⟨none, (.pick 11 (.t 8) (.t 10) (.v (.k (.c (.bool false)))))⟩]
def f33b7 : AQ := (.seq (.region f33r6) f33b5)
def f33b8 : AQ := (.seq f33b7 f33b2)
def f33r9 : List AI := [⟨none, (.load 4 4 true (.t 1))⟩, ⟨none, (.call (some 5) 34 [(.t 4)])⟩, ⟨none, (.mov 3 (.t 5))⟩]
def f33b10 : AQ := (.seq (.region f33r9) f33b8)
def f33r11 : List AI := [⟨none, (.box 1 27 (.t 0))⟩, ⟨none, (.mov 2 (.v (.k (.c (.int .i64 0)))))⟩]
def f33b12 : AQ := (.seq (.region f33r11) f33b10)
def f33 : AQ := f33b12
theorem hf33 : cFunc Tryz.prog 33 = some ⟨13, f33.erase, [(RX.t 2)]⟩ := by kernel_rfl
theorem okf33 : f33.ok = true := by kernel_rfl
def f34r1 : List AI := [⟨none, (.mov 2 (.v (.k (.c (.int .i64 0)))))⟩]
def f34b2 : AQ := (.seq (.region f34r1) .ret)
def f34r3 : List AI := [⟨none, (.mov 2 (.v (.k (.c (.int .i64 1)))))⟩]
def f34b4 : AQ := (.seq (.region f34r3) .ret)
def f34b5 : AQ := (.cond (.t 87) f34b4 .skip)
def f34r6 : List AI := [⟨none, (.faddr 75 3 (.t 1))⟩, ⟨none, (.load 76 1 false (.t 75))⟩, ⟨none, (.mov 77 (.t 76))⟩, ⟨(some (77, true)), (.faddr 78 1 (.t 1))⟩, ⟨(some (77, true)), (.load 79 1 false (.t 78))⟩, ⟨(some (77, true)), (.len 80 (.t 79))⟩, ⟨(some (77, true)), (.bin 81 .gtr (.t 80) (.v (.k (.c (.int .i64 0)))))⟩, ⟨(some (77, true)), (.mov 82 (.t 81))⟩, ⟨(some (82, false)), (.faddr 83 2 (.t 1))⟩, ⟨(some (82, false)), (.load 84 1 false (.t 83))⟩, ⟨(some (82, false)), (.bin 85 .neq (.t 84) (.v (.k (.c (.int .i64 (-1))))))⟩, ⟨(some (77, true)), (.pick 86 (.t 82) (.v (.k (.c (.bool true)))) (.t 85))⟩, ⟨none, (.pick 87 (.t 77) (.t 86) (.v (.k (.c (.bool false)))))⟩]
def f34b7 : AQ := (.seq (.region f34r6) f34b5)
def f34b8 : AQ := (.seq f34b7 f34b2)
def f34r9 : List AI := [⟨none, (.mov 51 (.t 4))⟩, ⟨none, (.bin 52 .add (.t 51) (.v (.k (.c (.int .i64 1)))))⟩, ⟨none, (.mov 4 (.t 52))⟩]
def f34r10 : List AI := [⟨none, (.mov 2 (.v (.k (.c (.int .i64 1)))))⟩]
def f34b11 : AQ := (.seq (.region f34r10) .ret)
def f34b12 : AQ := (.cond (.t 74) f34b11 .skip)
def f34r13 : List AI := [⟨none, (.faddr 58 0 (.t 5))⟩, ⟨none, (.load 59 1 false (.t 58))⟩, ⟨none, (.bin 60 .lss (.t 59) (.v (.k (.c (.int .i64 0)))))⟩, ⟨none, (.mov 61 (.t 60))⟩, ⟨(some (61, false)), (.faddr 62 0 (.t 5))⟩, ⟨(some (61, false)), (.load 63 1 false (.t 62))⟩, ⟨(some (61, false)), (.faddr 64 0 (.t 1))⟩, ⟨(some (61, false)), (.load 65 1 false (.t 64))⟩, ⟨(some (61, false)), (.len 66 (.t 65))⟩, ⟨(some (61, false)), (.bin 67 .geq (.t 63) (.t 66))⟩, ⟨none, (.pick 68 (.t 61) (.v (.k (.c (.bool true)))) (.t 67))⟩, ⟨none, (.mov 69 (.t 68))⟩, ⟨(some (69, false)), (.faddr 70 1 (.t 5))⟩, ⟨(some (69, false)), (.load 71 1 false (.t 70))⟩, ⟨(some (69, false)), (.lenS 72 (.t 71))⟩, ⟨(some (69, false)), (.bin 73 .neq (.t 72) (.v (.k (.c (.int .i64 16)))))⟩, ⟨none, (.pick 74 (.t 69) (.v (.k (.c (.bool true)))) (.t 73))⟩]
def f34b14 : AQ := (.seq (.region f34r13) f34b12)
def f34r15 : List AI := [⟨none, (.faddr 53 1 (.t 1))⟩, ⟨none, (.load 54 1 false (.t 53))⟩, ⟨none, (.mov 55 (.t 4))⟩, ⟨none, (.iaddr 56 2 (.t 54) (.t 55))⟩, ⟨none, (.load 57 2 true (.t 56))⟩, ⟨none, (.alloc 5 57 [(.int .i64 0), (.str [])])⟩, ⟨none, (.store 2 (.t 5) (.t 57))⟩]
def f34b16 : AQ := (.seq (.region f34r15) f34b14)
def f34b17 : AQ := (.block 3 f34b16)
def f34b18 : AQ := (.seq f34b17 (.region f34r9))
def f34b19 : AQ := (.cond (.t 50) .skip (.exit 2))
def f34r20 : List AI := [⟨none, (.mov 46 (.t 4))⟩, ⟨none, (.faddr 47 1 (.t 1))⟩, ⟨none, (.load 48 1 false (.t 47))⟩, ⟨none, (.len 49 (.t 48))⟩, ⟨none, (.bin 50 .lss (.t 46) (.t 49))⟩]
def f34b21 : AQ := (.seq (.region f34r20) f34b19)
def f34b22 : AQ := (.seq f34b21 f34b18)
def f34l23 : AQ := .loop [1, 4] [1] f34b22
theorem uf34l23 (P ts os Q) : awl P f34l23 Q ts os = awl P (.loop [1, 4] [1] f34b22) Q ts os := id rfl
def f34b24 : AQ := (.block 2 f34l23)
def f34r25 : List AI := [⟨none, (.mov 4 (.v (.k (.c (.int .i64 0)))))⟩]
def f34b26 : AQ := (.seq (.region f34r25) f34b24)
def f34b27 : AQ := (.seq f34b26 f34b8)
def f34r28 : List AI := [⟨none, (.mov 37 (.t 3))⟩, ⟨none, (.bin 38 .add (.t 37) (.v (.k (.c (.int .i64 1)))))⟩, ⟨none, (.mov 3 (.t 38))⟩]
def f34r29 : List AI := [⟨none, (.mov 2 (.v (.k (.c (.int .i64 1)))))⟩]
def f34b30 : AQ := (.seq (.region f34r29) .ret)
def f34b31 : AQ := (.cond (.t 45) f34b30 .skip)
def f34r32 : List AI := [⟨none, (.faddr 39 0 (.t 1))⟩, ⟨none, (.load 40 1 false (.t 39))⟩, ⟨none, (.mov 41 (.t 3))⟩, ⟨none, (.iaddr 42 1 (.t 40) (.t 41))⟩, ⟨none, (.load 43 1 false (.t 42))⟩, ⟨none, (.lenS 44 (.t 43))⟩, ⟨none, (.bin 45 .neq (.t 44) (.v (.k (.c (.int .i64 16)))))⟩]
def f34b33 : AQ := (.seq (.region f34r32) f34b31)
def f34b34 : AQ := (.block 1 f34b33)
def f34b35 : AQ := (.seq f34b34 (.region f34r28))
def f34b36 : AQ := (.cond (.t 36) .skip (.exit 0))
def f34r37 : List AI := [⟨none, (.mov 32 (.t 3))⟩, ⟨none, (.faddr 33 0 (.t 1))⟩, ⟨none, (.load 34 1 false (.t 33))⟩, ⟨none, (.len 35 (.t 34))⟩, ⟨none, (.bin 36 .lss (.t 32) (.t 35))⟩]
def f34b38 : AQ := (.seq (.region f34r37) f34b36)
def f34b39 : AQ := (.seq f34b38 f34b35)
def f34l40 : AQ := .loop [1, 3] [1] f34b39
theorem uf34l40 (P ts os Q) : awl P f34l40 Q ts os = awl P (.loop [1, 3] [1] f34b39) Q ts os := id rfl
def f34b41 : AQ := (.block 0 f34l40)
def f34r42 : List AI := [⟨none, (.mov 3 (.v (.k (.c (.int .i64 0)))))⟩]
def f34b43 : AQ := (.seq (.region f34r42) f34b41)
def f34b44 : AQ := (.seq f34b43 f34b27)
def f34r45 : List AI := [⟨none, (.mov 2 (.v (.k (.c (.int .i64 1)))))⟩]
def f34b46 : AQ := (.seq (.region f34r45) .ret)
def f34b47 : AQ := (.cond (.t 31) f34b46 .skip)
def f34r48 : List AI := [⟨none, (.faddr 6 0 (.t 1))⟩, ⟨none, (.load 7 1 false (.t 6))⟩, ⟨none, (.len 8 (.t 7))⟩, ⟨none, (.bin 9 .lss (.t 8) (.v (.k (.c (.int .i64 1)))))⟩, ⟨none, (.mov 10 (.t 9))⟩, ⟨(some (10, false)), (.faddr 11 0 (.t 1))⟩, ⟨(some (10, false)), (.load 12 1 false (.t 11))⟩, ⟨(some (10, false)), (.len 13 (.t 12))⟩, ⟨(some (10, false)), (.bin 14 .gtr (.t 13) (.v (.k (.c (.int .i64 512)))))⟩, ⟨none, (.pick 15 (.t 10) (.v (.k (.c (.bool true)))) (.t 14))⟩, ⟨none, (.mov 16 (.t 15))⟩, ⟨(some (16, false)), (.faddr 17 1 (.t 1))⟩, ⟨(some (16, false)), (.load 18 1 false (.t 17))⟩, ⟨(some (16, false)), (.len 19 (.t 18))⟩, ⟨(some (16, false)), (.bin 20 .gtr (.t 19) (.v (.k (.c (.int .i64 512)))))⟩, ⟨none, (.pick 21 (.t 16) (.v (.k (.c (.bool true)))) (.t 20))⟩, ⟨none, (.mov 22 (.t 21))⟩, ⟨(some (22, false)), (.faddr 23 2 (.t 1))⟩, ⟨(some (22, false)), (.load 24 1 false (.t 23))⟩, ⟨(some (22, false)), (.bin 25 .lss (.t 24) (.v (.k (.c (.int .i64 (-1))))))⟩, ⟨none, (.pick 26 (.t 22) (.v (.k (.c (.bool true)))) (.t 25))⟩, ⟨none, (.mov 27 (.t 26))⟩, ⟨(some (27, false)), (.faddr 28 2 (.t 1))⟩, ⟨(some (27, false)), (.load 29 1 false (.t 28))⟩, ⟨(some (27, false)), (.bin 30 .gtr (.t 29) (.v (.k (.c (.int .i64 512)))))⟩, ⟨none, (.pick 31 (.t 27) (.v (.k (.c (.bool true)))) (.t 30))⟩]
def f34b49 : AQ := (.seq (.region f34r48) f34b47)
def f34b50 : AQ := (.seq f34b49 f34b44)
def f34r51 : List AI := [⟨none, (.box 1 27 (.t 0))⟩, ⟨none, (.mov 2 (.v (.k (.c (.int .i64 0)))))⟩]
def f34b52 : AQ := (.seq (.region f34r51) f34b50)
def f34 : AQ := f34b52
theorem hf34 : cFunc Tryz.prog 34 = some ⟨88, f34.erase, [(RX.t 2)]⟩ := by kernel_rfl
theorem okf34 : f34.ok = true := by kernel_rfl
def f35r1 : List AI := [⟨none, (.mov 2 (.v (.k (.c (.int .i64 0)))))⟩]
def f35b2 : AQ := (.seq (.region f35r1) .ret)
def f35r3 : List AI := [⟨none, (.mov 2 (.v (.k (.c (.int .i64 1)))))⟩]
def f35b4 : AQ := (.seq (.region f35r3) .ret)
def f35r5 : List AI := [⟨none, (.mov 2 (.v (.k (.c (.int .i64 8)))))⟩]
def f35b6 : AQ := (.seq (.region f35r5) .ret)
def f35r7 : List AI := [⟨none, (.mov 2 (.v (.k (.c (.int .i64 7)))))⟩]
def f35b8 : AQ := (.seq (.region f35r7) .ret)
def f35b9 : AQ := (.cond (.t 10) f35b8 .skip)
def f35r10 : List AI := [⟨none, (.faddr 11 1 (.t 1))⟩, ⟨none, (.load 12 1 false (.t 11))⟩, ⟨none, (.len 13 (.t 12))⟩, ⟨none, (.bin 14 .gtr (.t 13) (.v (.k (.c (.int .i64 0)))))⟩, ⟨none, (.mov 10 (.t 14))⟩]
def f35b11 : AQ := (.seq (.region f35r10) f35b9)
def f35b12 : AQ := (.cond (.t 7) f35b6 f35b11)
def f35r13 : List AI := [⟨none, (.faddr 8 3 (.t 1))⟩, ⟨none, (.load 9 1 false (.t 8))⟩, ⟨none, (.mov 7 (.t 9))⟩]
def f35b14 : AQ := (.seq (.region f35r13) f35b12)
def f35b15 : AQ := (.cond (.t 3) f35b4 f35b14)
def f35r16 : List AI := [⟨none, (.load 4 4 true (.t 1))⟩, ⟨none, (.call (some 5) 49 [(.t 4)])⟩, ⟨none, (.bin 6 .neq (.t 5) (.v (.k (.c (.int .i64 0)))))⟩, ⟨none, (.mov 3 (.t 6))⟩]
def f35b17 : AQ := (.seq (.region f35r16) f35b15)
def f35b18 : AQ := (.block 0 f35b17)
def f35b19 : AQ := (.seq f35b18 f35b2)
def f35r20 : List AI := [⟨none, (.box 1 27 (.t 0))⟩, ⟨none, (.mov 2 (.v (.k (.c (.int .i64 0)))))⟩]
def f35b21 : AQ := (.seq (.region f35r20) f35b19)
def f35 : AQ := f35b21
theorem hf35 : cFunc Tryz.prog 35 = some ⟨15, f35.erase, [(RX.t 2)]⟩ := by kernel_rfl
theorem okf35 : f35.ok = true := by kernel_rfl
def f36r1 : List AI := [⟨none, (.mov 19 (.t 3))⟩, ⟨none, (.mov 2 (.t 19))⟩]
def f36b2 : AQ := (.seq (.region f36r1) .ret)
def f36r3 : List AI := [⟨none, (.mov 10 (.t 4))⟩, ⟨none, (.bin 11 .add (.t 10) (.v (.k (.c (.int .i64 1)))))⟩, ⟨none, (.mov 4 (.t 11))⟩]
def f36r4 : List AI := [⟨none, (.mov 12 (.t 3))⟩, ⟨none, (.faddr 13 0 (.t 1))⟩, ⟨none, (.load 14 1 false (.t 13))⟩, ⟨none, (.mov 15 (.t 4))⟩, ⟨none, (.iaddr 16 1 (.t 14) (.t 15))⟩, ⟨none, (.load 17 1 false (.t 16))⟩, ⟨none, (.bin 18 .add (.t 12) (.t 17))⟩, ⟨none, (.mov 3 (.t 18))⟩]
def f36b5 : AQ := (.block 1 (.region f36r4))
def f36b6 : AQ := (.seq f36b5 (.region f36r3))
def f36b7 : AQ := (.cond (.t 9) .skip (.exit 0))
def f36r8 : List AI := [⟨none, (.mov 5 (.t 4))⟩, ⟨none, (.faddr 6 0 (.t 1))⟩, ⟨none, (.load 7 1 false (.t 6))⟩, ⟨none, (.len 8 (.t 7))⟩, ⟨none, (.bin 9 .lss (.t 5) (.t 8))⟩]
def f36b9 : AQ := (.seq (.region f36r8) f36b7)
def f36b10 : AQ := (.seq f36b9 f36b6)
def f36l11 : AQ := .loop [1, 3, 4] [1] f36b10
theorem uf36l11 (P ts os Q) : awl P f36l11 Q ts os = awl P (.loop [1, 3, 4] [1] f36b10) Q ts os := id rfl
def f36b12 : AQ := (.block 0 f36l11)
def f36r13 : List AI := [⟨none, (.mov 4 (.v (.k (.c (.int .i64 2)))))⟩]
def f36b14 : AQ := (.seq (.region f36r13) f36b12)
def f36b15 : AQ := (.seq f36b14 f36b2)
def f36r16 : List AI := [⟨none, (.mov 3 (.v (.k (.c (.str [])))))⟩]
def f36b17 : AQ := (.seq (.region f36r16) f36b15)
def f36r18 : List AI := [⟨none, (.box 1 27 (.t 0))⟩, ⟨none, (.mov 2 (.v (.k (.c (.str [])))))⟩]
def f36b19 : AQ := (.seq (.region f36r18) f36b17)
def f36 : AQ := f36b19
theorem hf36 : cFunc Tryz.prog 36 = some ⟨20, f36.erase, [(RX.t 2)]⟩ := by kernel_rfl
theorem okf36 : f36.ok = true := by kernel_rfl
def f37r1 : List AI := [⟨none, (.mov 40 (.t 3))⟩, ⟨none, (.mov 2 (.t 40))⟩]
def f37b2 : AQ := (.seq (.region f37r1) .ret)
def f37r3 : List AI := [⟨none, (.mov 10 (.t 4))⟩, ⟨none, (.bin 11 .add (.t 10) (.v (.k (.c (.int .i64 1)))))⟩, ⟨none, (.mov 4 (.t 11))⟩]
def f37r4 : List AI := [⟨none, (.mov 32 (.t 3))⟩, ⟨none, (.bin 33 .mul (.v (.k (.c (.int .i64 10)))) (.t 32))⟩, ⟨none, (.mov 34 (.t 0))⟩, ⟨none, (.mov 35 (.t 4))⟩, ⟨none, (.sidx 36 (.t 34) (.t 35))⟩, ⟨none, (.conv 37 .i64 (.t 36))⟩, ⟨none, (.bin 38 .add (.t 33) (.t 37))⟩, ⟨none, (.bin 39 .sub (.t 38) (.v (.k (.c (.int .i64 48)))))⟩, ⟨none, (.mov 3 (.t 39))⟩]
def f37r5 : List AI := [⟨none, (.mov 2 (.v (.k (.c (.int .i64 (-1))))))⟩]
def f37b6 : AQ := (.seq (.region f37r5) .ret)
def f37b7 : AQ := (.cond (.t 31) f37b6 .skip)
def f37r8 : List AI := [⟨none, (.mov 12 (.t 0))⟩, ⟨none, (.mov 13 (.t 4))⟩, ⟨none, (.sidx 14 (.t 12) (.t 13))⟩, ⟨none, (.bin 15 .lss (.t 14) (.v (.k (.c (.int .u8 48)))))⟩, ⟨none, (.mov 16 (.t 15))⟩, ⟨(some (16, false)), (.mov 17 (.t 0))⟩, ⟨(some (16, false)), (.mov 18 (.t 4))⟩, ⟨(some (16, false)), (.sidx 19 (.t 17) (.t 18))⟩, ⟨(some (16, false)), (.bin 20 .gtr (.t 19) (.v (.k (.c (.int .u8 57)))))⟩, ⟨none, (.pick 21 (.t 16) (.v (.k (.c (.bool true)))) (.t 20))⟩, ⟨none, (.mov 22 (.t 21))⟩, ⟨(some (22, false)), (.mov 23 (.t 0))⟩, ⟨(some (22, false)), (.mov 24 (.t 4))⟩, ⟨(some (22, false)), (.sidx 25 (.t 23) (.t 24))⟩, ⟨(some (22, false)), (.mov 26 (.t 0))⟩, ⟨(some (22, false)), (.mov 27 (.t 4))⟩, ⟨(some (22, false)), (.bin 28 .add (.t 27) (.v (.k (.c (.int .i64 8)))))⟩, ⟨(some (22, false)), (.sidx 29 (.t 26) (.t 28))⟩, ⟨(some (22, false)), (.bin 30 .neq (.t 25) (.t 29))⟩, ⟨none, (.pick 31 (.t 22) (.v (.k (.c (.bool true)))) (.t 30))⟩]
def f37b9 : AQ := (.seq (.draw f37r8 [[], [], [0, 1], [2], [3], [4], [4], [5, 6, 4], [7, 4], [4, 8], [9, 4], [10], [10], [11, 12, 10], [10], [10], [15, 10], [14, 16, 10], [13, 17, 10], [10, 18]]) f37b7)
def f37b10 : AQ := (.seq f37b9 (.region f37r4))
def f37b11 : AQ := (.block 1 f37b10)
def f37b12 : AQ := (.seq f37b11 (.region f37r3))
def f37b13 : AQ := (.cond (.t 9) .skip (.exit 0))
def f37r14 : List AI := [⟨none, (.mov 8 (.t 4))⟩, ⟨none, (.bin 9 .lss (.t 8) (.v (.k (.c (.int .i64 8)))))⟩]
def f37b15 : AQ := (.seq (.region f37r14) f37b13)
def f37b16 : AQ := (.seq f37b15 f37b12)
def f37l17 : AQ := .loop [0, 3, 4] [] f37b16
theorem uf37l17 (P ts os Q) : awl P f37l17 Q ts os = awl P (.loop [0, 3, 4] [] f37b16) Q ts os := id rfl
def f37b18 : AQ := (.block 0 f37l17)
def f37r19 : List AI := [⟨none, (.mov 4 (.v (.k (.c (.int .i64 0)))))⟩]
def f37b20 : AQ := (.seq (.region f37r19) f37b18)
def f37b21 : AQ := (.seq f37b20 f37b2)
def f37r22 : List AI := [⟨none, (.mov 3 (.v (.k (.c (.int .i64 0)))))⟩]
def f37b23 : AQ := (.seq (.region f37r22) f37b21)
def f37r24 : List AI := [⟨none, (.mov 2 (.v (.k (.c (.int .i64 (-1))))))⟩]
def f37b25 : AQ := (.seq (.region f37r24) .ret)
def f37b26 : AQ := (.cond (.t 7) f37b25 .skip)
def f37r27 : List AI := [⟨none, (.mov 5 (.t 0))⟩, ⟨none, (.lenS 6 (.t 5))⟩, ⟨none, (.bin 7 .neq (.t 6) (.v (.k (.c (.int .i64 16)))))⟩]
def f37b28 : AQ := (.seq (.region f37r27) f37b26)
def f37b29 : AQ := (.seq f37b28 f37b23)
def f37r30 : List AI := [⟨none, (.mov 2 (.v (.k (.c (.int .i64 0)))))⟩]
def f37b31 : AQ := (.seq (.region f37r30) f37b29)
def f37 : AQ := f37b31
theorem hf37 : cFunc Tryz.prog 37 = some ⟨41, f37.erase, [(RX.t 2)]⟩ := by kernel_rfl
theorem okf37 : f37.ok = true := by kernel_rfl
def f38r1 : List AI := [⟨none, (.mov 22 (.t 6))⟩, ⟨none, (.mov 23 (.t 5))⟩, ⟨none, (.slstr 24 (.t 22) none (some (.t 23)))⟩, ⟨none, (.mov 25 (.t 6))⟩, ⟨none, (.mov 26 (.t 5))⟩, ⟨none, (.slstr 27 (.t 25) (some (.t 26)) none)⟩, ⟨none, (.mov 2 (.t 24))⟩, ⟨none, (.mov 3 (.t 27))⟩, ⟨none, (.mov 4 (.v (.k (.c (.bool true)))))⟩]
def f38b2 : AQ := (.seq (.draw f38r1 [[], [], [0, 1], [], [], [3, 4], [2, 0, 1, 2], [5, 6, 0, 1, 2, 3, 4, 5, 6], [7, 0, 1, 2, 3, 4, 5, 6, 7]]) .ret)
def f38r3 : List AI := [⟨none, (.mov 2 (.v (.k (.c (.str [])))))⟩, ⟨none, (.mov 3 (.v (.k (.c (.str [])))))⟩, ⟨none, (.mov 4 (.v (.k (.c (.bool false)))))⟩]
def f38b4 : AQ := (.seq (.region f38r3) .ret)
def f38b5 : AQ := (.cond (.t 21) f38b4 .skip)
def f38r6 : List AI := [⟨none, (.mov 14 (.t 7))⟩, ⟨none, (.un 15 .not (.t 14))⟩, ⟨none, (.mov 16 (.t 15))⟩, ⟨(some (16, false)), (.mov 17 (.t 5))⟩, ⟨(some (16, false)), (.mov 18 (.t 6))⟩, ⟨(some (16, false)), (.lenS 19 (.t 18))⟩, ⟨(some (16, false)), (.bin 20 .gtr (.t 17) (.t 19))⟩, ⟨none, (.pick 21 (.t 16) (.v (.k (.c (.bool true)))) (.t 20))⟩]
def f38b7 : AQ := (.seq (.region f38r6) f38b5)
def f38b8 : AQ := (.seq f38b7 f38b2)
def f38r9 : List AI := [⟨none, (.mov 9 (.t 0))⟩, ⟨none, (.call (some 10) 50 [(.t 9)])⟩, ⟨none, (.mov 8 (.t 10))⟩, ⟨none, (.extr 11 (.t 8) 0)⟩, ⟨none, (.extr 12 (.t 8) 1)⟩, ⟨none, (.extr 13 (.t 8) 2)⟩, ⟨none, (.mov 5 (.t 11))⟩, ⟨none, (.mov 6 (.t 12))⟩, ⟨none, (.mov 7 (.t 13))⟩]
def f38b10 : AQ := (.seq (.region f38r9) f38b8)
def f38r11 : List AI := [⟨none, (.mov 2 (.v (.k (.c (.str [])))))⟩, ⟨none, (.mov 3 (.v (.k (.c (.str [])))))⟩, ⟨none, (.mov 4 (.v (.k (.c (.bool false)))))⟩]
def f38b12 : AQ := (.seq (.region f38r11) f38b10)
def f38 : AQ := f38b12
theorem hf38 : cFunc Tryz.prog 38 = some ⟨28, f38.erase, [(RX.t 2), (RX.t 3), (RX.t 4)]⟩ := by kernel_rfl
theorem okf38 : f38.ok = true := by kernel_rfl
def f39r1 : List AI := [⟨none, (.mov 43 (.t 5))⟩, ⟨none, (.mov 4 (.t 43))⟩]
def f39b2 : AQ := (.seq (.region f39r1) .ret)
def f39r3 : List AI := [⟨none, (.mov 27 (.t 7))⟩, ⟨none, (.bin 28 .add (.t 27) (.v (.k (.c (.int .i64 1)))))⟩, ⟨none, (.mov 7 (.t 28))⟩]
def f39r4 : List AI := [⟨none, (.mov 29 (.t 5))⟩, ⟨none, (.faddr 30 1 (.t 2))⟩, ⟨none, (.load 31 1 false (.t 30))⟩, ⟨none, (.mov 32 (.t 7))⟩, ⟨none, (.iaddr 33 2 (.t 31) (.t 32))⟩, ⟨none, (.faddr 34 0 (.t 33))⟩, ⟨none, (.load 35 1 false (.t 34))⟩, ⟨none, (.faddr 36 1 (.t 2))⟩, ⟨none, (.load 37 1 false (.t 36))⟩, ⟨none, (.mov 38 (.t 7))⟩, ⟨none, (.iaddr 39 2 (.t 37) (.t 38))⟩, ⟨none, (.faddr 40 1 (.t 39))⟩, ⟨none, (.load 41 1 false (.t 40))⟩, ⟨none, (.iaddr 42 1 (.t 29) (.t 35))⟩, ⟨none, (.store 1 (.t 42) (.t 41))⟩]
def f39b5 : AQ := (.block 3 (.draw f39r4 [[], [], [1], [], [2, 3], [4], [5], [], [7], [], [8, 9], [10], [11], [0, 6, 0, 1, 2, 3, 4, 5, 6, 7, 8, 9, 10, 11, 12], [13, 12, 0, 1, 2, 3, 4, 5, 6, 7, 8, 9, 10, 11, 12]]))
def f39b6 : AQ := (.seq f39b5 (.region f39r3))
def f39b7 : AQ := (.cond (.t 26) .skip (.exit 2))
def f39r8 : List AI := [⟨none, (.mov 24 (.t 7))⟩, ⟨none, (.mov 25 (.t 1))⟩, ⟨none, (.bin 26 .lss (.t 24) (.t 25))⟩]
def f39b9 : AQ := (.seq (.region f39r8) f39b7)
def f39b10 : AQ := (.seq f39b9 f39b6)
def f39l11 : AQ := .loop [1, 2, 5, 7] [2, 8, 23] f39b10
theorem uf39l11 (P ts os Q) : awl P f39l11 Q ts os = awl P (.loop [1, 2, 5, 7] [2, 8, 23] f39b10) Q ts os := id rfl
def f39b12 : AQ := (.block 2 f39l11)
def f39r13 : List AI := [⟨none, (.mov 7 (.v (.k (.c (.int .i64 0)))))⟩]
def f39b14 : AQ := (.seq (.region f39r13) f39b12)
def f39b15 : AQ := (.seq f39b14 f39b2)
def f39r16 : List AI := [⟨none, (.mov 14 (.t 6))⟩, ⟨none, (.bin 15 .add (.t 14) (.v (.k (.c (.int .i64 1)))))⟩, ⟨none, (.mov 6 (.t 15))⟩]
def f39r17 : List AI := [⟨none, (.mov 16 (.t 5))⟩, ⟨none, (.faddr 17 0 (.t 2))⟩, ⟨none, (.load 18 1 false (.t 17))⟩, ⟨none, (.mov 19 (.t 6))⟩, ⟨none, (.iaddr 20 1 (.t 18) (.t 19))⟩, ⟨none, (.load 21 1 false (.t 20))⟩, ⟨none, (.bslice 22 9 1 [(.str [])] 1 [(0, (.t 21))])⟩, ⟨none, (.append 23 9 1 16 (.t 16) (.t 22))⟩, ⟨none, (.mov 5 (.t 23))⟩]
def f39b18 : AQ := (.block 1 (.region f39r17))
def f39b19 : AQ := (.seq f39b18 (.region f39r16))
def f39b20 : AQ := (.cond (.t 13) .skip (.exit 0))
def f39r21 : List AI := [⟨none, (.mov 9 (.t 6))⟩, ⟨none, (.faddr 10 0 (.t 2))⟩, ⟨none, (.load 11 1 false (.t 10))⟩, ⟨none, (.len 12 (.t 11))⟩, ⟨none, (.bin 13 .lss (.t 9) (.t 12))⟩]
def f39b22 : AQ := (.seq (.region f39r21) f39b20)
def f39b23 : AQ := (.seq f39b22 f39b19)
def f39l24 : AQ := .loop [1, 2, 5, 6] [2, 8, 23] f39b23
theorem uf39l24 (P ts os Q) : awl P f39l24 Q ts os = awl P (.loop [1, 2, 5, 6] [2, 8, 23] f39b23) Q ts os := id rfl
def f39b25 : AQ := (.block 0 f39l24)
def f39r26 : List AI := [⟨none, (.mov 6 (.v (.k (.c (.int .i64 0)))))⟩]
def f39b27 : AQ := (.seq (.region f39r26) f39b25)
def f39b28 : AQ := (.seq f39b27 f39b15)
def f39r29 : List AI := [⟨none, (.bslice 8 9 1 [(.str [])] 0 [])⟩, ⟨none, (.mov 5 (.t 8))⟩]
def f39b30 : AQ := (.seq (.region f39r29) f39b28)
def f39r31 : List AI := [⟨none, (.box 2 27 (.t 0))⟩, ⟨none, (.nilL 4 9 1)⟩]
def f39b32 : AQ := (.seq (.region f39r31) f39b30)
def f39 : AQ := f39b32
theorem hf39 : cFunc Tryz.prog 39 = some ⟨44, f39.erase, [(RX.t 4)]⟩ := by kernel_rfl
theorem okf39 : f39.ok = true := by kernel_rfl
def f40r1 : List AI := [⟨none, (.mov 34 (.t 3))⟩, ⟨none, (.mov 2 (.t 34))⟩]
def f40b2 : AQ := (.seq (.region f40r1) .ret)
def f40r3 : List AI := [⟨none, (.mov 32 (.t 3))⟩, ⟨none, (.bin 33 .add (.v (.k (.c (.str [45])))) (.t 32))⟩, ⟨none, (.mov 3 (.t 33))⟩]
def f40b4 : AQ := (.cond (.t 31) (.region f40r3) .skip)
def f40r5 : List AI := [⟨none, (.mov 30 (.t 0))⟩, ⟨none, (.bin 31 .lss (.t 30) (.v (.k (.c (.int .i64 0)))))⟩]
def f40b6 : AQ := (.seq (.region f40r5) f40b4)
def f40b7 : AQ := (.seq f40b6 f40b2)
def f40r8 : List AI := [⟨none, (.mov 14 (.t 5))⟩, ⟨none, (.bin 15 .add (.t 14) (.v (.k (.c (.int .i64 1)))))⟩, ⟨none, (.mov 5 (.t 15))⟩]
def f40r9 : List AI := [⟨none, (.mov 28 (.t 4))⟩, ⟨none, (.bin 29 .quo (.t 28) (.v (.k (.c (.int .i64 10)))))⟩, ⟨none, (.mov 4 (.t 29))⟩]
def f40r10 : List AI := [⟨none, (.mov 22 (.t 6))⟩, ⟨none, (.mov 23 (.t 6))⟩, ⟨none, (.bin 24 .add (.t 23) (.v (.k (.c (.int .i64 1)))))⟩, ⟨none, (.slstr 25 (.v (.k (.c (.str [48, 49, 50, 51, 52, 53, 54, 55, 56, 57])))) (some (.t 22)) (some (.t 24)))⟩, ⟨none, (.mov 26 (.t 3))⟩, ⟨none, (.bin 27 .add (.t 25) (.t 26))⟩, ⟨none, (.mov 3 (.t 27))⟩]
def f40b11 : AQ := (.seq (.region f40r10) (.region f40r9))
def f40r12 : List AI := [⟨none, (.mov 20 (.t 6))⟩, ⟨none, (.un 21 .neg (.t 20))⟩, ⟨none, (.mov 6 (.t 21))⟩]
def f40b13 : AQ := (.cond (.t 19) (.region f40r12) .skip)
def f40r14 : List AI := [⟨none, (.mov 18 (.t 6))⟩, ⟨none, (.bin 19 .lss (.t 18) (.v (.k (.c (.int .i64 0)))))⟩]
def f40b15 : AQ := (.seq (.region f40r14) f40b13)
def f40b16 : AQ := (.seq f40b15 f40b11)
def f40r17 : List AI := [⟨none, (.mov 16 (.t 4))⟩, ⟨none, (.bin 17 .rem (.t 16) (.v (.k (.c (.int .i64 10)))))⟩, ⟨none, (.mov 6 (.t 17))⟩]
def f40b18 : AQ := (.seq (.region f40r17) f40b16)
def f40b19 : AQ := (.block 1 f40b18)
def f40b20 : AQ := (.seq f40b19 (.region f40r8))
def f40b21 : AQ := (.cond (.t 13) .skip (.exit 0))
def f40r22 : List AI := [⟨none, (.mov 8 (.t 5))⟩, ⟨none, (.bin 9 .eql (.t 8) (.v (.k (.c (.int .i64 0)))))⟩, ⟨none, (.mov 10 (.t 9))⟩, ⟨(some (10, false)), (.mov 11 (.t 4))⟩, ⟨(some (10, false)), (.bin 12 .neq (.t 11) (.v (.k (.c (.int .i64 0)))))⟩, ⟨none, (.pick 13 (.t 10) (.v (.k (.c (.bool true)))) (.t 12))⟩]
def f40b23 : AQ := (.seq (.region f40r22) f40b21)
def f40b24 : AQ := (.seq f40b23 f40b20)
def f40l25 : AQ := .loop [0, 3, 4, 5] [] f40b24
theorem uf40l25 (P ts os Q) : awl P f40l25 Q ts os = awl P (.loop [0, 3, 4, 5] [] f40b24) Q ts os := id rfl
def f40b26 : AQ := (.block 0 f40l25)
def f40r27 : List AI := [⟨none, (.mov 5 (.v (.k (.c (.int .i64 0)))))⟩]
def f40b28 : AQ := (.seq (.region f40r27) f40b26)
def f40b29 : AQ := (.seq f40b28 f40b7)
def f40r30 : List AI := [⟨none, (.mov 7 (.t 0))⟩, ⟨none, (.mov 4 (.t 7))⟩]
def f40b31 : AQ := (.seq (.region f40r30) f40b29)
def f40r32 : List AI := [⟨none, (.mov 3 (.v (.k (.c (.str [59])))))⟩]
def f40b33 : AQ := (.seq (.region f40r32) f40b31)
def f40r34 : List AI := [⟨none, (.mov 2 (.v (.k (.c (.str [])))))⟩]
def f40b35 : AQ := (.seq (.region f40r34) f40b33)
def f40 : AQ := f40b35
theorem hf40 : cFunc Tryz.prog 40 = some ⟨35, f40.erase, [(RX.t 2)]⟩ := by kernel_rfl
theorem okf40 : f40.ok = true := by kernel_rfl
def f41r1 : List AI := [⟨none, (.mov 33 (.t 4))⟩, ⟨none, (.mov 2 (.t 33))⟩, ⟨none, (.mov 3 (.v (.k (.c (.bool true)))))⟩]
def f41b2 : AQ := (.seq (.region f41r1) .ret)
def f41r3 : List AI := [⟨none, (.bin 32 .add (.t 11) (.v (.k (.c (.int .i64 1)))))⟩, ⟨none, (.mov 11 (.t 32))⟩]
def f41r4 : List AI := [⟨none, (.mov 24 (.t 4))⟩, ⟨none, (.bin 25 .mul (.v (.k (.c (.int .i64 10)))) (.t 24))⟩, ⟨none, (.mov 26 (.t 0))⟩, ⟨none, (.mov 27 (.t 5))⟩, ⟨none, (.sidx 28 (.t 26) (.t 27))⟩, ⟨none, (.bin 29 .sub (.t 28) (.v (.k (.c (.int .u8 48)))))⟩, ⟨none, (.conv 30 .i64 (.t 29))⟩, ⟨none, (.bin 31 .add (.t 25) (.t 30))⟩, ⟨none, (.mov 4 (.t 31))⟩]
def f41r5 : List AI := [⟨none, (.mov 2 (.v (.k (.c (.int .i64 0)))))⟩, ⟨none, (.mov 3 (.v (.k (.c (.bool false)))))⟩]
def f41b6 : AQ := (.seq (.region f41r5) .ret)
def f41b7 : AQ := (.cond (.t 23) f41b6 .skip)
def f41r8 : List AI := [⟨none, (.mov 14 (.t 0))⟩, ⟨none, (.mov 15 (.t 5))⟩, ⟨none, (.sidx 16 (.t 14) (.t 15))⟩, ⟨none, (.bin 17 .lss (.t 16) (.v (.k (.c (.int .u8 48)))))⟩, ⟨none, (.mov 18 (.t 17))⟩, ⟨(some (18, false)), (.mov 19 (.t 0))⟩, ⟨(some (18, false)), (.mov 20 (.t 5))⟩, ⟨(some (18, false)), (.sidx 21 (.t 19) (.t 20))⟩, ⟨(some (18, false)), (.bin 22 .gtr (.t 21) (.v (.k (.c (.int .u8 57)))))⟩, ⟨none, (.pick 23 (.t 18) (.v (.k (.c (.bool true)))) (.t 22))⟩]
def f41b9 : AQ := (.seq (.region f41r8) f41b7)
def f41b10 : AQ := (.seq f41b9 (.region f41r4))
def f41r11 : List AI := [⟨none, (.mov 13 (.t 11))⟩, ⟨none, (.mov 5 (.t 13))⟩]
def f41b12 : AQ := (.seq (.region f41r11) f41b10)
def f41b13 : AQ := (.block 1 f41b12)
def f41b14 : AQ := (.seq f41b13 (.region f41r3))
def f41b15 : AQ := (.cond (.t 12) .skip (.exit 0))
def f41b16 : AQ := (.seq f41b15 f41b14)
def f41r17 : List AI := [⟨none, (.bin 12 .lss (.t 11) (.v (.k (.c (.int .i64 8)))))⟩]
def f41b18 : AQ := (.seq (.region f41r17) f41b16)
def f41l19 : AQ := .loop [0, 4, 11] [] f41b18
theorem uf41l19 (P ts os Q) : awl P f41l19 Q ts os = awl P (.loop [0, 4, 11] [] f41b18) Q ts os := id rfl
def f41b20 : AQ := (.block 0 f41l19)
def f41r21 : List AI := [⟨none, (.mov 11 (.v (.k (.c (.int .i64 0)))))⟩]
def f41b22 : AQ := (.seq (.region f41r21) f41b20)
def f41b23 : AQ := (.seq f41b22 f41b2)
def f41r24 : List AI := [⟨none, (.mov 4 (.v (.k (.c (.int .i64 0)))))⟩]
def f41b25 : AQ := (.seq (.region f41r24) f41b23)
def f41r26 : List AI := [⟨none, (.mov 2 (.v (.k (.c (.int .i64 0)))))⟩, ⟨none, (.mov 3 (.v (.k (.c (.bool false)))))⟩]
def f41b27 : AQ := (.seq (.region f41r26) .ret)
def f41b28 : AQ := (.cond (.t 10) f41b27 .skip)
def f41r29 : List AI := [⟨none, (.mov 6 (.t 0))⟩, ⟨none, (.slstr 7 (.t 6) none (some (.v (.k (.c (.int .i64 8))))))⟩, ⟨none, (.mov 8 (.t 0))⟩, ⟨none, (.slstr 9 (.t 8) (some (.v (.k (.c (.int .i64 8))))) none)⟩, ⟨none, (.bin 10 .neq (.t 7) (.t 9))⟩]
def f41b30 : AQ := (.seq (.draw f41r29 [[], [0], [], [2], [1, 3]]) f41b28)
def f41b31 : AQ := (.seq f41b30 f41b25)
def f41r32 : List AI := [⟨none, (.mov 2 (.v (.k (.c (.int .i64 0)))))⟩, ⟨none, (.mov 3 (.v (.k (.c (.bool false)))))⟩]
def f41b33 : AQ := (.seq (.region f41r32) f41b31)
def f41 : AQ := f41b33
theorem hf41 : cFunc Tryz.prog 41 = some ⟨34, f41.erase, [(RX.t 2), (RX.t 3)]⟩ := by kernel_rfl
theorem okf41 : f41.ok = true := by kernel_rfl
def f43r1 : List AI := [⟨none, (.mov 24 (.t 3))⟩, ⟨none, (.mov 25 (.t 5))⟩, ⟨none, (.slstr 26 (.t 24) none (some (.t 25)))⟩, ⟨none, (.mov 27 (.t 3))⟩, ⟨none, (.mov 28 (.t 5))⟩, ⟨none, (.slstr 29 (.t 27) (some (.t 28)) none)⟩, ⟨none, (.mov 2 (.t 26))⟩, ⟨none, (.mov 3 (.t 29))⟩, ⟨none, (.mov 4 (.v (.k (.c (.bool true)))))⟩]
def f43b2 : AQ := (.seq (.draw f43r1 [[], [], [0, 1], [], [], [3, 4], [2, 0, 1, 2], [5, 6, 0, 1, 2, 3, 4, 5, 6], [7, 0, 1, 2, 3, 4, 5, 6, 7]]) .ret)
def f43r3 : List AI := [⟨none, (.mov 2 (.v (.k (.c (.str [])))))⟩, ⟨none, (.mov 3 (.v (.k (.c (.str [])))))⟩, ⟨none, (.mov 4 (.v (.k (.c (.bool false)))))⟩]
def f43b4 : AQ := (.seq (.region f43r3) .ret)
def f43b5 : AQ := (.cond (.t 23) f43b4 .skip)
def f43r6 : List AI := [⟨none, (.mov 12 (.t 4))⟩, ⟨none, (.un 13 .not (.t 12))⟩, ⟨none, (.mov 14 (.t 13))⟩, ⟨(some (14, false)), (.mov 15 (.t 5))⟩, ⟨(some (14, false)), (.bin 16 .lss (.t 15) (.v (.k (.c (.int .i64 0)))))⟩, ⟨none, (.pick 17 (.t 14) (.v (.k (.c (.bool true)))) (.t 16))⟩, ⟨none, (.mov 18 (.t 17))⟩, ⟨(some (18, false)), (.mov 19 (.t 5))⟩, ⟨(some (18, false)), (.mov 20 (.t 3))⟩, ⟨(some (18, false)), (.lenS 21 (.t 20))⟩, ⟨(some (18, false)), (.bin 22 .gtr (.t 19) (.t 21))⟩, ⟨none, (.pick 23 (.t 18) (.v (.k (.c (.bool true)))) (.t 22))⟩]
def f43b7 : AQ := (.seq (.region f43r6) f43b5)
def f43b8 : AQ := (.seq f43b7 f43b2)
def f43r9 : List AI := [⟨none, (.mov 7 (.t 0))⟩, ⟨none, (.call (some 8) 54 [(.t 7)])⟩, ⟨none, (.mov 6 (.t 8))⟩, ⟨none, (.extr 9 (.t 6) 0)⟩, ⟨none, (.extr 10 (.t 6) 1)⟩, ⟨none, (.extr 11 (.t 6) 2)⟩, ⟨none, (.mov 5 (.t 9))⟩, ⟨none, (.mov 3 (.t 10))⟩, ⟨none, (.mov 4 (.t 11))⟩]
def f43b10 : AQ := (.seq (.region f43r9) f43b8)
def f43r11 : List AI := [⟨none, (.mov 2 (.v (.k (.c (.str [])))))⟩, ⟨none, (.mov 3 (.v (.k (.c (.str [])))))⟩, ⟨none, (.mov 4 (.v (.k (.c (.bool false)))))⟩]
def f43b12 : AQ := (.seq (.region f43r11) f43b10)
def f43 : AQ := f43b12
theorem hf43 : cFunc Tryz.prog 43 = some ⟨30, f43.erase, [(RX.t 2), (RX.t 3), (RX.t 4)]⟩ := by kernel_rfl
theorem okf43 : f43.ok = true := by kernel_rfl
def f44r1 : List AI := [⟨none, (.mov 3 (.t 0))⟩, ⟨none, (.call (some 4) 55 [(.t 3)])⟩, ⟨none, (.bin 5 .add (.t 4) (.v (.k (.c (.str [59])))))⟩, ⟨none, (.mov 2 (.t 5))⟩]
def f44b2 : AQ := (.seq (.region f44r1) .ret)
def f44r3 : List AI := [⟨none, (.mov 2 (.v (.k (.c (.str [])))))⟩]
def f44b4 : AQ := (.seq (.region f44r3) f44b2)
def f44 : AQ := f44b4
theorem hf44 : cFunc Tryz.prog 44 = some ⟨6, f44.erase, [(RX.t 2)]⟩ := by kernel_rfl
theorem okf44 : f44.ok = true := by kernel_rfl
def f45r1 : List AI := [⟨none, (.mov 2 (.v (.k (.c (.int .i64 0)))))⟩]
def f45b2 : AQ := (.seq (.region f45r1) .ret)
def f45r3 : List AI := [⟨none, (.mov 2 (.v (.k (.c (.int .i64 1)))))⟩]
def f45b4 : AQ := (.seq (.region f45r3) .ret)
def f45r5 : List AI := [⟨none, (.mov 2 (.v (.k (.c (.int .i64 8)))))⟩]
def f45b6 : AQ := (.seq (.region f45r5) .ret)
def f45b7 : AQ := (.cond (.t 7) f45b6 .skip)
def f45r8 : List AI := [⟨none, (.faddr 8 3 (.t 1))⟩, ⟨none, (.load 9 1 false (.t 8))⟩, ⟨none, (.mov 7 (.t 9))⟩]
def f45b9 : AQ := (.seq (.region f45r8) f45b7)
def f45b10 : AQ := (.cond (.t 3) f45b4 f45b9)
def f45r11 : List AI := [⟨none, (.load 4 4 true (.t 1))⟩, ⟨none, (.call (some 5) 56 [(.t 4)])⟩, ⟨none, (.un 6 .not (.t 5))⟩, ⟨none, (.mov 3 (.t 6))⟩]
def f45b12 : AQ := (.seq (.region f45r11) f45b10)
def f45b13 : AQ := (.block 0 f45b12)
def f45b14 : AQ := (.seq f45b13 f45b2)
def f45r15 : List AI := [⟨none, (.box 1 27 (.t 0))⟩, ⟨none, (.mov 2 (.v (.k (.c (.int .i64 0)))))⟩]
def f45b16 : AQ := (.seq (.region f45r15) f45b14)
def f45 : AQ := f45b16
theorem hf45 : cFunc Tryz.prog 45 = some ⟨10, f45.erase, [(RX.t 2)]⟩ := by kernel_rfl
theorem okf45 : f45.ok = true := by kernel_rfl
def f48r1 : List AI := [⟨none, (.load 6 4 true (.t 1))⟩, ⟨none, (.store 4 (.t 2) (.t 6))⟩]
def f48b2 : AQ := (.seq (.region f48r1) .ret)
def f48r3 : List AI := [⟨none, (.faddr 3 1 (.t 1))⟩, ⟨none, (.store 1 (.t 3) (.v (.k (.c (.list 0 (some true) [])))))⟩, ⟨none, (.faddr 4 2 (.t 1))⟩, ⟨none, (.store 1 (.t 4) (.v (.k (.c (.int .i64 (-1))))))⟩, ⟨none, (.faddr 5 3 (.t 1))⟩, ⟨none, (.store 1 (.t 5) (.v (.k (.c (.bool true)))))⟩]
def f48b4 : AQ := (.seq (.region f48r3) f48b2)
def f48r5 : List AI := [⟨none, (.box 1 27 (.t 0))⟩, ⟨none, (.alloc 2 27 [(.list 0 (some true) []), (.list 0 (some true) []), (.int .i64 0), (.bool false)])⟩]
def f48b6 : AQ := (.seq (.region f48r5) f48b4)
def f48 : AQ := f48b6
theorem hf48 : cFunc Tryz.prog 48 = some ⟨7, f48.erase, [(RX.cell 2 4 true)]⟩ := by kernel_rfl
theorem okf48 : f48.ok = true := by kernel_rfl
def f49r1 : List AI := [⟨none, (.mov 2 (.v (.k (.c (.int .i64 0)))))⟩]
def f49b2 : AQ := (.seq (.region f49r1) .ret)
def f49r3 : List AI := [⟨none, (.mov 2 (.v (.k (.c (.int .i64 1)))))⟩]
def f49b4 : AQ := (.seq (.region f49r3) .ret)
def f49b5 : AQ := (.cond (.t 5) f49b4 .skip)
def f49r6 : List AI := [⟨none, (.load 3 4 true (.t 1))⟩, ⟨none, (.call (some 4) 56 [(.t 3)])⟩, ⟨none, (.un 5 .not (.t 4))⟩]
def f49b7 : AQ := (.seq (.region f49r6) f49b5)
def f49b8 : AQ := (.seq f49b7 f49b2)
def f49r9 : List AI := [⟨none, (.box 1 27 (.t 0))⟩, ⟨none, (.mov 2 (.v (.k (.c (.int .i64 0)))))⟩]
def f49b10 : AQ := (.seq (.region f49r9) f49b8)
def f49 : AQ := f49b10
theorem hf49 : cFunc Tryz.prog 49 = some ⟨6, f49.erase, [(RX.t 2)]⟩ := by kernel_rfl
theorem okf49 : f49.ok = true := by kernel_rfl
def f50r1 : List AI := [⟨none, (.mov 20 (.t 5))⟩, ⟨none, (.mov 21 (.t 6))⟩, ⟨none, (.mov 2 (.t 20))⟩, ⟨none, (.mov 3 (.t 21))⟩, ⟨none, (.mov 4 (.v (.k (.c (.bool true)))))⟩]
def f50b2 : AQ := (.seq (.region f50r1) .ret)
def f50r3 : List AI := [⟨none, (.mov 2 (.v (.k (.c (.int .i64 0)))))⟩, ⟨none, (.mov 3 (.v (.k (.c (.str [])))))⟩, ⟨none, (.mov 4 (.v (.k (.c (.bool false)))))⟩]
def f50b4 : AQ := (.seq (.region f50r3) .ret)
def f50b5 : AQ := (.cond (.t 19) f50b4 .skip)
def f50r6 : List AI := [⟨none, (.mov 14 (.t 7))⟩, ⟨none, (.un 15 .not (.t 14))⟩, ⟨none, (.mov 16 (.t 15))⟩, ⟨(some (16, false)), (.mov 17 (.t 5))⟩, ⟨(some (16, false)), (.bin 18 .lss (.t 17) (.v (.k (.c (.int .i64 0)))))⟩, ⟨none, (.pick 19 (.t 16) (.v (.k (.c (.bool true)))) (.t 18))⟩]
def f50b7 : AQ := (.seq (.region f50r6) f50b5)
def f50b8 : AQ := (.seq f50b7 f50b2)
def f50r9 : List AI := [⟨none, (.mov 9 (.t 0))⟩, ⟨none, (.call (some 10) 61 [(.t 9)])⟩, ⟨none, (.mov 8 (.t 10))⟩, ⟨none, (.extr 11 (.t 8) 0)⟩, ⟨none, (.extr 12 (.t 8) 1)⟩, ⟨none, (.extr 13 (.t 8) 2)⟩, ⟨none, (.mov 5 (.t 11))⟩, ⟨none, (.mov 6 (.t 12))⟩, ⟨none, (.mov 7 (.t 13))⟩]
def f50b10 : AQ := (.seq (.region f50r9) f50b8)
def f50r11 : List AI := [⟨none, (.mov 2 (.v (.k (.c (.int .i64 0)))))⟩, ⟨none, (.mov 3 (.v (.k (.c (.str [])))))⟩, ⟨none, (.mov 4 (.v (.k (.c (.bool false)))))⟩]
def f50b12 : AQ := (.seq (.region f50r11) f50b10)
def f50 : AQ := f50b12
theorem hf50 : cFunc Tryz.prog 50 = some ⟨22, f50.erase, [(RX.t 2), (RX.t 3), (RX.t 4)]⟩ := by kernel_rfl
theorem okf50 : f50.ok = true := by kernel_rfl
def f56r1 : List AI := [⟨none, (.mov 2 (.v (.k (.c (.bool true)))))⟩]
def f56b2 : AQ := (.seq (.region f56r1) .ret)
def f56r3 : List AI := [⟨none, (.bin 83 .add (.t 62) (.v (.k (.c (.int .i64 1)))))⟩, ⟨none, (.mov 62 (.t 83))⟩]
def f56r4 : List AI := [⟨none, (.mov 2 (.v (.k (.c (.bool false)))))⟩]
def f56b5 : AQ := (.seq (.region f56r4) .ret)
def f56b6 : AQ := (.cond (.t 82) f56b5 .skip)
def f56r7 : List AI := [⟨none, (.faddr 66 0 (.t 6))⟩, ⟨none, (.load 67 1 false (.t 66))⟩, ⟨none, (.bin 68 .lss (.t 67) (.v (.k (.c (.int .i64 0)))))⟩, ⟨none, (.mov 69 (.t 68))⟩, ⟨(some (69, false)), (.faddr 70 0 (.t 6))⟩, ⟨(some (69, false)), (.load 71 1 false (.t 70))⟩, ⟨(some (69, false)), (.faddr 72 0 (.t 1))⟩, ⟨(some (69, false)), (.load 73 1 false (.t 72))⟩, ⟨(some (69, false)), (.len 74 (.t 73))⟩, ⟨(some (69, false)), (.bin 75 .geq (.t 71) (.t 74))⟩, ⟨none, (.pick 76 (.t 69) (.v (.k (.c (.bool true)))) (.t 75))⟩, ⟨none, (.mov 77 (.t 76))⟩, ⟨(some (77, false)), (.faddr 78 1 (.t 6))⟩, ⟨(some (77, false)), (.load 79 1 false (.t 78))⟩, ⟨(some (77, false)), (.lenS 80 (.t 79))⟩, ⟨(some (77, false)), (.bin 81 .neq (.t 80) (.v (.k (.c (.int .i64 16)))))⟩, ⟨none, (.pick 82 (.t 77) (.v (.k (.c (.bool true)))) (.t 81))⟩]
def f56b8 : AQ := (.seq (.region f56r7) f56b6)
def f56r9 : List AI := [⟨none, (.iaddr 64 2 (.t 60) (.t 62))⟩, ⟨none, (.load 65 2 true (.t 64))⟩, ⟨none, (.alloc 6 57 [(.int .i64 0), (.str [])])⟩, ⟨none, (.store 2 (.t 6) (.t 65))⟩]
def f56b10 : AQ := (.seq (.region f56r9) f56b8)
def f56b11 : AQ := (.block 3 f56b10)
def f56b12 : AQ := (.seq f56b11 (.region f56r3))
def f56b13 : AQ := (.cond (.t 63) .skip (.exit 2))
def f56b14 : AQ := (.seq f56b13 f56b12)
def f56r15 : List AI := [⟨none, (.bin 63 .lss (.t 62) (.t 61))⟩]
def f56b16 : AQ := (.seq (.region f56r15) f56b14)
def f56l17 : AQ := .loop [1, 60, 61, 62] [1] f56b16
theorem uf56l17 (P ts os Q) : awl P f56l17 Q ts os = awl P (.loop [1, 60, 61, 62] [1] f56b16) Q ts os := id rfl
def f56b18 : AQ := (.block 2 f56l17)
def f56r19 : List AI := [⟨none, (.faddr 59 1 (.t 1))⟩, ⟨none, (.load 60 1 false (.t 59))⟩, ⟨none, (.len 61 (.t 60))⟩, ⟨none, (.mov 62 (.v (.k (.c (.int .i64 0)))))⟩]
def f56b20 : AQ := (.seq (.region f56r19) f56b18)
def f56b21 : AQ := (.seq f56b20 f56b2)
def f56r22 : List AI := [⟨none, (.bin 58 .add (.t 51) (.v (.k (.c (.int .i64 1)))))⟩, ⟨none, (.mov 51 (.t 58))⟩]
def f56r23 : List AI := [⟨none, (.mov 2 (.v (.k (.c (.bool false)))))⟩]
def f56b24 : AQ := (.seq (.region f56r23) .ret)
def f56b25 : AQ := (.cond (.t 57) f56b24 .skip)
def f56r26 : List AI := [⟨none, (.mov 55 (.t 4))⟩, ⟨none, (.lenS 56 (.t 55))⟩, ⟨none, (.bin 57 .neq (.t 56) (.v (.k (.c (.int .i64 16)))))⟩]
def f56b27 : AQ := (.seq (.region f56r26) f56b25)
def f56r28 : List AI := [⟨none, (.iaddr 53 1 (.t 49) (.t 51))⟩, ⟨none, (.load 54 1 false (.t 53))⟩, ⟨none, (.mov 4 (.t 54))⟩]
def f56b29 : AQ := (.seq (.region f56r28) f56b27)
def f56b30 : AQ := (.block 1 f56b29)
def f56b31 : AQ := (.seq f56b30 (.region f56r22))
def f56b32 : AQ := (.cond (.t 52) .skip (.exit 0))
def f56b33 : AQ := (.seq f56b32 f56b31)
def f56r34 : List AI := [⟨none, (.bin 52 .lss (.t 51) (.t 50))⟩]
def f56b35 : AQ := (.seq (.region f56r34) f56b33)
def f56l36 : AQ := .loop [1, 49, 50, 51] [1] f56b35
theorem uf56l36 (P ts os Q) : awl P f56l36 Q ts os = awl P (.loop [1, 49, 50, 51] [1] f56b35) Q ts os := id rfl
def f56b37 : AQ := (.block 0 f56l36)
def f56r38 : List AI := [⟨none, (.faddr 48 0 (.t 1))⟩, ⟨none, (.load 49 1 false (.t 48))⟩, ⟨none, (.len 50 (.t 49))⟩, ⟨none, (.mov 51 (.v (.k (.c (.int .i64 0)))))⟩]
def f56b39 : AQ := (.seq (.region f56r38) f56b37)
def f56b40 : AQ := (.seq f56b39 f56b21)
def f56r41 : List AI := [⟨none, (.mov 2 (.v (.k (.c (.bool false)))))⟩]
def f56b42 : AQ := (.seq (.region f56r41) .ret)
def f56b43 : AQ := (.cond (.t 47) f56b42 .skip)
def f56r44 : List AI := [⟨none, (.faddr 7 0 (.t 1))⟩, ⟨none, (.load 8 1 false (.t 7))⟩, ⟨none, (.len 9 (.t 8))⟩, ⟨none, (.bin 10 .lss (.t 9) (.v (.k (.c (.int .i64 1)))))⟩, ⟨none, (.mov 11 (.t 10))⟩, ⟨(some (11, false)), (.faddr 12 0 (.t 1))⟩, ⟨(some (11, false)), (.load 13 1 false (.t 12))⟩, ⟨(some (11, false)), (.len 14 (.t 13))⟩, ⟨(some (11, false)), (.bin 15 .gtr (.t 14) (.v (.k (.c (.int .i64 512)))))⟩, ⟨none, (.pick 16 (.t 11) (.v (.k (.c (.bool true)))) (.t 15))⟩, ⟨none, (.mov 17 (.t 16))⟩, ⟨(some (17, false)), (.faddr 18 1 (.t 1))⟩, ⟨(some (17, false)), (.load 19 1 false (.t 18))⟩, ⟨(some (17, false)), (.len 20 (.t 19))⟩, ⟨(some (17, false)), (.bin 21 .gtr (.t 20) (.v (.k (.c (.int .i64 512)))))⟩, ⟨none, (.pick 22 (.t 17) (.v (.k (.c (.bool true)))) (.t 21))⟩, ⟨none, (.mov 23 (.t 22))⟩, ⟨(some (23, false)), (.faddr 24 2 (.t 1))⟩, ⟨(some (23, false)), (.load 25 1 false (.t 24))⟩, ⟨(some (23, false)), (.bin 26 .lss (.t 25) (.v (.k (.c (.int .i64 (-1))))))⟩, ⟨none, (.pick 27 (.t 23) (.v (.k (.c (.bool true)))) (.t 26))⟩, ⟨none, (.mov 28 (.t 27))⟩, ⟨(some (28, false)), (.faddr 29 2 (.t 1))⟩, ⟨(some (28, false)), (.load 30 1 false (.t 29))⟩, ⟨(some (28, false)), (.bin 31 .gtr (.t 30) (.v (.k (.c (.int .i64 512)))))⟩, ⟨none, (.pick 32 (.t 28) (.v (.k (.c (.bool true)))) (.t 31))⟩, ⟨none, (.mov 33 (.t 32))⟩, ⟨(some (33, false)), (.faddr 34 3 (.t 1))⟩, ⟨(some (33, false)), (.load 35 1 false (.t 34))⟩, ⟨(some (33, false)), (.mov 36 (.t 35))⟩, ⟨(some (36, true)), (.faddr 37 1 (.t 1))⟩, ⟨(some (36, true)), (.load 38 1 false (.t 37))⟩, ⟨(some (36, true)), (.len 39 (.t 38))⟩, ⟨(some (36, true)), (.bin 40 .gtr (.t 39) (.v (.k (.c (.int .i64 0)))))⟩, ⟨(some (36, true)), (.mov 41 (.t 40))⟩, ⟨(some (41, false)), (.faddr 42 2 (.t 1))⟩, ⟨(some (41, false)), (.load 43 1 false (.t 42))⟩, ⟨(some (41, false)), (.bin 44 .neq (.t 43) (.v (.k (.c (.int .i64 (-1))))))⟩, ⟨(some (36, true)), (.pick 45 (.t 41) (.v (.k (.c (.bool true)))) (.t 44))⟩, ⟨(some (33, false)), (.pick 46 (.t 36) (.t 45) (.v (.k (.c (.bool false)))))⟩, ⟨none, (.pick 47 (.t 33) (.v (.k (.c (.bool true)))) (.t 46))⟩]
def f56b45 : AQ := (.seq (.region f56r44) f56b43)
def f56b46 : AQ := (.seq f56b45 f56b40)
def f56r47 : List AI := [⟨none, (.box 1 27 (.t 0))⟩, ⟨none, (.mov 2 (.v (.k (.c (.bool false)))))⟩]
def f56b48 : AQ := (.seq (.region f56r47) f56b46)
def f56 : AQ := f56b48
theorem hf56 : cFunc Tryz.prog 56 = some ⟨84, f56.erase, [(RX.t 2)]⟩ := by kernel_rfl
theorem okf56 : f56.ok = true := by kernel_rfl
def f58r1 : List AI := [⟨none, (.mov 28 (.t 8))⟩, ⟨none, (.mov 29 (.t 9))⟩, ⟨none, (.mov 4 (.t 28))⟩, ⟨none, (.mov 5 (.t 29))⟩]
def f58b2 : AQ := (.seq (.region f58r1) .ret)
def f58r3 : List AI := [⟨none, (.mov 23 (.t 0))⟩, ⟨none, (.mov 24 (.t 1))⟩, ⟨none, (.call (some 25) 68 [(.t 23), (.t 24)])⟩, ⟨none, (.mov 22 (.t 25))⟩, ⟨none, (.extr 26 (.t 22) 0)⟩, ⟨none, (.extr 27 (.t 22) 1)⟩, ⟨none, (.mov 8 (.t 26))⟩, ⟨none, (.mov 9 (.t 27))⟩]
def f58b4 : AQ := (.seq (.region f58r3) f58b2)
def f58r5 : List AI := [⟨none, (.mov 18 (.t 6))⟩, ⟨none, (.conv 19 .u64 (.t 18))⟩, ⟨none, (.mov 20 (.t 7))⟩, ⟨none, (.conv 21 .u64 (.t 20))⟩, ⟨none, (.mov 4 (.t 19))⟩, ⟨none, (.mov 5 (.t 21))⟩]
def f58b6 : AQ := (.seq (.region f58r5) .ret)
def f58r7 : List AI := [⟨none, (.mov 11 (.t 0))⟩, ⟨none, (.conv 12 .u32 (.t 11))⟩, ⟨none, (.mov 13 (.t 1))⟩, ⟨none, (.conv 14 .u32 (.t 13))⟩, ⟨none, (.call (some 15) 67 [(.t 12), (.t 14)])⟩, ⟨none, (.mov 10 (.t 15))⟩, ⟨none, (.extr 16 (.t 10) 0)⟩, ⟨none, (.extr 17 (.t 10) 1)⟩, ⟨none, (.mov 6 (.t 16))⟩, ⟨none, (.mov 7 (.t 17))⟩]
def f58b8 : AQ := (.seq (.region f58r7) f58b6)
def f58b9 : AQ := (.cond (.v (.k (.c (.bool false)))) f58b8 .skip)
def f58b10 : AQ := (.seq f58b9 f58b4)
def f58r11 : List AI := [⟨none, (.mov 4 (.v (.k (.c (.int .u64 0)))))⟩, ⟨none, (.mov 5 (.v (.k (.c (.int .u64 0)))))⟩]
def f58b12 : AQ := (.seq (.region f58r11) f58b10)
def f58 : AQ := f58b12
theorem hf58 : cFunc Tryz.prog 58 = some ⟨30, f58.erase, [(RX.t 4), (RX.t 5)]⟩ := by kernel_rfl
theorem okf58 : f58.ok = true := by kernel_rfl
def f59r1 : List AI := [⟨none, (.mov 5 (.t 0))⟩, ⟨none, (.mov 6 (.t 1))⟩, ⟨none, (.call (some 7) 69 [(.t 5), (.t 6)])⟩, ⟨none, (.mov 4 (.t 7))⟩]
def f59b2 : AQ := (.seq (.region f59r1) .ret)
def f59r3 : List AI := [⟨none, (.mov 4 (.v (.k (.c (.bool false)))))⟩]
def f59b4 : AQ := (.seq (.region f59r3) f59b2)
def f59 : AQ := f59b4
theorem hf59 : cFunc Tryz.prog 59 = some ⟨8, f59.erase, [(RX.t 4)]⟩ := by kernel_rfl
theorem okf59 : f59.ok = true := by kernel_rfl
def f61r1 : List AI := [⟨none, (.mov 99 (.t 7))⟩, ⟨none, (.un 100 .neg (.t 99))⟩, ⟨none, (.mov 101 (.t 9))⟩, ⟨none, (.mov 2 (.t 100))⟩, ⟨none, (.mov 3 (.t 101))⟩, ⟨none, (.mov 4 (.v (.k (.c (.bool true)))))⟩]
def f61b2 : AQ := (.seq (.region f61r1) .ret)
def f61r3 : List AI := [⟨none, (.mov 2 (.v (.k (.c (.int .i64 0)))))⟩, ⟨none, (.mov 3 (.v (.k (.c (.str [])))))⟩, ⟨none, (.mov 4 (.v (.k (.c (.bool false)))))⟩]
def f61b4 : AQ := (.seq (.region f61r3) .ret)
def f61b5 : AQ := (.cond (.t 98) f61b4 .skip)
def f61r6 : List AI := [⟨none, (.mov 97 (.t 7))⟩, ⟨none, (.bin 98 .eql (.t 97) (.v (.k (.c (.int .i64 (-9223372036854775808))))))⟩]
def f61b7 : AQ := (.seq (.region f61r6) f61b5)
def f61b8 : AQ := (.seq f61b7 f61b2)
def f61r9 : List AI := [⟨none, (.mov 95 (.t 7))⟩, ⟨none, (.mov 96 (.t 9))⟩, ⟨none, (.mov 2 (.t 95))⟩, ⟨none, (.mov 3 (.t 96))⟩, ⟨none, (.mov 4 (.v (.k (.c (.bool true)))))⟩]
def f61b10 : AQ := (.seq (.region f61r9) .ret)
def f61b11 : AQ := (.cond (.t 94) f61b10 .skip)
def f61r12 : List AI := [⟨none, (.mov 93 (.t 5))⟩, ⟨none, (.bin 94 .eql (.t 93) (.v (.k (.c (.int .i64 1)))))⟩]
def f61b13 : AQ := (.seq (.region f61r12) f61b11)
def f61b14 : AQ := (.seq f61b13 f61b8)
def f61r15 : List AI := [⟨none, (.mov 2 (.v (.k (.c (.int .i64 0)))))⟩, ⟨none, (.mov 3 (.v (.k (.c (.str [])))))⟩, ⟨none, (.mov 4 (.v (.k (.c (.bool false)))))⟩]
def f61b16 : AQ := (.seq (.region f61r15) .ret)
def f61b17 : AQ := (.cond (.t 92) f61b16 .skip)
def f61r18 : List AI := [⟨none, (.mov 87 (.t 5))⟩, ⟨none, (.bin 88 .eql (.t 87) (.v (.k (.c (.int .i64 1)))))⟩, ⟨none, (.mov 89 (.t 88))⟩, ⟨(some (89, true)), (.mov 90 (.t 7))⟩, ⟨(some (89, true)), (.bin 91 .eql (.t 90) (.v (.k (.c (.int .i64 0)))))⟩, ⟨none, (.pick 92 (.t 89) (.t 91) (.v (.k (.c (.bool false)))))⟩]
def f61b19 : AQ := (.seq (.region f61r18) f61b17)
def f61b20 : AQ := (.seq f61b19 f61b14)
def f61r21 : List AI := [⟨none, (.mov 83 (.t 0))⟩, ⟨none, (.mov 84 (.t 6))⟩, ⟨none, (.bin 85 .add (.t 84) (.v (.k (.c (.int .i64 1)))))⟩, ⟨none, (.slstr 86 (.t 83) (some (.t 85)) none)⟩, ⟨none, (.mov 9 (.t 86))⟩]
def f61b22 : AQ := (.seq (.region f61r21) f61b20)
def f61r23 : List AI := [⟨none, (.mov 2 (.v (.k (.c (.int .i64 0)))))⟩, ⟨none, (.mov 3 (.v (.k (.c (.str [])))))⟩, ⟨none, (.mov 4 (.v (.k (.c (.bool false)))))⟩]
def f61b24 : AQ := (.seq (.region f61r23) .ret)
def f61b25 : AQ := (.cond (.t 82) f61b24 .skip)
def f61r26 : List AI := [⟨none, (.mov 56 (.t 6))⟩, ⟨none, (.mov 57 (.t 5))⟩, ⟨none, (.bin 58 .eql (.t 56) (.t 57))⟩, ⟨none, (.mov 59 (.t 58))⟩, ⟨(some (59, false)), (.mov 60 (.t 6))⟩, ⟨(some (59, false)), (.mov 61 (.t 0))⟩, ⟨(some (59, false)), (.lenS 62 (.t 61))⟩, ⟨(some (59, false)), (.bin 63 .geq (.t 60) (.t 62))⟩, ⟨none, (.pick 64 (.t 59) (.v (.k (.c (.bool true)))) (.t 63))⟩, ⟨none, (.mov 65 (.t 64))⟩, ⟨(some (65, false)), (.mov 66 (.t 0))⟩, ⟨(some (65, false)), (.mov 67 (.t 6))⟩, ⟨(some (65, false)), (.sidx 68 (.t 66) (.t 67))⟩, ⟨(some (65, false)), (.bin 69 .neq (.t 68) (.v (.k (.c (.int .u8 59)))))⟩, ⟨none, (.pick 70 (.t 65) (.v (.k (.c (.bool true)))) (.t 69))⟩, ⟨none, (.mov 71 (.t 70))⟩, ⟨(some (71, false)), (.mov 72 (.t 6))⟩, ⟨(some (71, false)), (.mov 73 (.t 5))⟩, ⟨(some (71, false)), (.bin 74 .add (.t 73) (.v (.k (.c (.int .i64 1)))))⟩, ⟨(some (71, false)), (.bin 75 .gtr (.t 72) (.t 74))⟩, ⟨(some (71, false)), (.mov 76 (.t 75))⟩, ⟨(some (76, true)), (.mov 77 (.t 0))⟩, ⟨(some (76, true)), (.mov 78 (.t 5))⟩, ⟨(some (76, true)), (.sidx 79 (.t 77) (.t 78))⟩, ⟨(some (76, true)), (.bin 80 .eql (.t 79) (.v (.k (.c (.int .u8 48)))))⟩, ⟨(some (71, false)), (.pick 81 (.t 76) (.t 80) (.v (.k (.c (.bool false)))))⟩, ⟨none, (.pick 82 (.t 71) (.v (.k (.c (.bool true)))) (.t 81))⟩]
def f61b27 : AQ := (.seq (.region f61r26) f61b25)
def f61b28 : AQ := (.seq f61b27 f61b22)
def f61r29 : List AI := [⟨none, (.mov 54 (.t 6))⟩, ⟨none, (.bin 55 .add (.t 54) (.v (.k (.c (.int .i64 1)))))⟩, ⟨none, (.mov 6 (.t 55))⟩]
def f61r30 : List AI := [⟨none, (.mov 50 (.t 7))⟩, ⟨none, (.bin 51 .mul (.v (.k (.c (.int .i64 10)))) (.t 50))⟩, ⟨none, (.mov 52 (.t 8))⟩, ⟨none, (.bin 53 .sub (.t 51) (.t 52))⟩, ⟨none, (.mov 7 (.t 53))⟩]
def f61b31 : AQ := (.seq (.region f61r30) (.region f61r29))
def f61r32 : List AI := [⟨none, (.mov 2 (.v (.k (.c (.int .i64 0)))))⟩, ⟨none, (.mov 3 (.v (.k (.c (.str [])))))⟩, ⟨none, (.mov 4 (.v (.k (.c (.bool false)))))⟩]
def f61b33 : AQ := (.seq (.region f61r32) .ret)
def f61b34 : AQ := (.cond (.t 49) f61b33 .skip)
def f61r35 : List AI := [⟨none, (.mov 40 (.t 7))⟩, ⟨none, (.bin 41 .lss (.t 40) (.v (.k (.c (.int .i64 (-922337203685477580))))))⟩, ⟨none, (.mov 42 (.t 41))⟩, ⟨(some (42, false)), (.mov 43 (.t 7))⟩, ⟨(some (42, false)), (.bin 44 .eql (.t 43) (.v (.k (.c (.int .i64 (-922337203685477580))))))⟩, ⟨(some (42, false)), (.mov 45 (.t 44))⟩, ⟨(some (45, true)), (.mov 46 (.t 8))⟩, ⟨(some (45, true)), (.bin 47 .gtr (.t 46) (.v (.k (.c (.int .i64 8)))))⟩, ⟨(some (42, false)), (.pick 48 (.t 45) (.t 47) (.v (.k (.c (.bool false)))))⟩, ⟨none, (.pick 49 (.t 42) (.v (.k (.c (.bool true)))) (.t 48))⟩]
def f61b36 : AQ := (.seq (.region f61r35) f61b34)
def f61b37 : AQ := (.seq f61b36 f61b31)
def f61r38 : List AI := [⟨none, (.mov 35 (.t 0))⟩, ⟨none, (.mov 36 (.t 6))⟩, ⟨none, (.sidx 37 (.t 35) (.t 36))⟩, ⟨none, (.conv 38 .i64 (.t 37))⟩, ⟨none, (.bin 39 .sub (.t 38) (.v (.k (.c (.int .i64 48)))))⟩, ⟨none, (.mov 8 (.t 39))⟩]
def f61b39 : AQ := (.seq (.region f61r38) f61b37)
def f61b40 : AQ := (.block 1 f61b39)
def f61b41 : AQ := (.cond (.t 34) .skip (.exit 0))
def f61r42 : List AI := [⟨none, (.mov 19 (.t 6))⟩, ⟨none, (.mov 20 (.t 0))⟩, ⟨none, (.lenS 21 (.t 20))⟩, ⟨none, (.bin 22 .lss (.t 19) (.t 21))⟩, ⟨none, (.mov 23 (.t 22))⟩, ⟨(some (23, true)), (.mov 24 (.t 0))⟩, ⟨(some (23, true)), (.mov 25 (.t 6))⟩, ⟨(some (23, true)), (.sidx 26 (.t 24) (.t 25))⟩, ⟨(some (23, true)), (.bin 27 .geq (.t 26) (.v (.k (.c (.int .u8 48)))))⟩, ⟨none, (.pick 28 (.t 23) (.t 27) (.v (.k (.c (.bool false)))))⟩, ⟨none, (.mov 29 (.t 28))⟩, ⟨(some (29, true)), (.mov 30 (.t 0))⟩, ⟨(some (29, true)), (.mov 31 (.t 6))⟩, ⟨(some (29, true)), (.sidx 32 (.t 30) (.t 31))⟩, ⟨(some (29, true)), (.bin 33 .leq (.t 32) (.v (.k (.c (.int .u8 57)))))⟩, ⟨none, (.pick 34 (.t 29) (.t 33) (.v (.k (.c (.bool false)))))⟩]
def f61b43 : AQ := (.seq (.region f61r42) f61b41)
def f61b44 : AQ := (.seq f61b43 f61b40)
def f61l45 : AQ := .loop [0, 5, 6, 7] [] f61b44
theorem uf61l45 (P ts os Q) : awl P f61l45 Q ts os = awl P (.loop [0, 5, 6, 7] [] f61b44) Q ts os := id rfl
def f61b46 : AQ := (.block 0 f61l45)
def f61b47 : AQ := (.seq f61b46 f61b28)
def f61r48 : List AI := [⟨none, (.mov 7 (.v (.k (.c (.int .i64 0)))))⟩]
def f61b49 : AQ := (.seq (.region f61r48) f61b47)
def f61r50 : List AI := [⟨none, (.mov 18 (.t 5))⟩, ⟨none, (.mov 6 (.t 18))⟩]
def f61b51 : AQ := (.seq (.region f61r50) f61b49)
def f61r52 : List AI := [⟨none, (.mov 5 (.v (.k (.c (.int .i64 1)))))⟩]
def f61b53 : AQ := (.cond (.t 17) (.region f61r52) .skip)
def f61r54 : List AI := [⟨none, (.mov 10 (.t 0))⟩, ⟨none, (.lenS 11 (.t 10))⟩, ⟨none, (.bin 12 .gtr (.t 11) (.v (.k (.c (.int .i64 0)))))⟩, ⟨none, (.mov 13 (.t 12))⟩, ⟨(some (13, true)), (.mov 14 (.t 0))⟩, ⟨(some (13, true)), (.sidx 15 (.t 14) (.v (.k (.c (.int .i64 0)))))⟩, ⟨(some (13, true)), (.bin 16 .eql (.t 15) (.v (.k (.c (.int .u8 45)))))⟩, ⟨none, (.pick 17 (.t 13) (.t 16) (.v (.k (.c (.bool false)))))⟩]
def f61b55 : AQ := (.seq (.region f61r54) f61b53)
def f61b56 : AQ := (.seq f61b55 f61b51)
def f61r57 : List AI := [⟨none, (.mov 5 (.v (.k (.c (.int .i64 0)))))⟩]
def f61b58 : AQ := (.seq (.region f61r57) f61b56)
def f61r59 : List AI := [⟨none, (.mov 2 (.v (.k (.c (.int .i64 0)))))⟩, ⟨none, (.mov 3 (.v (.k (.c (.str [])))))⟩, ⟨none, (.mov 4 (.v (.k (.c (.bool false)))))⟩]
def f61b60 : AQ := (.seq (.region f61r59) f61b58)
def f61 : AQ := f61b60
theorem hf61 : cFunc Tryz.prog 61 = some ⟨102, f61.erase, [(RX.t 2), (RX.t 3), (RX.t 4)]⟩ := by kernel_rfl
theorem okf61 : f61.ok = true := by kernel_rfl
def f68r1 : List AI := [⟨none, (.mov 48 (.t 0))⟩, ⟨none, (.mov 49 (.t 1))⟩, ⟨none, (.bin 50 .mul (.t 48) (.t 49))⟩, ⟨none, (.mov 5 (.t 50))⟩]
def f68b2 : AQ := (.seq (.region f68r1) .ret)
def f68r3 : List AI := [⟨none, (.mov 40 (.t 7))⟩, ⟨none, (.mov 41 (.t 9))⟩, ⟨none, (.bin 42 .mul (.t 40) (.t 41))⟩, ⟨none, (.mov 43 (.t 13))⟩, ⟨none, (.bin 44 .add (.t 42) (.t 43))⟩, ⟨none, (.mov 45 (.t 12))⟩, ⟨none, (.bin 46 .shr (.t 45) (.v (.k (.c (.int .u64 32)))))⟩, ⟨none, (.bin 47 .add (.t 44) (.t 46))⟩, ⟨none, (.mov 4 (.t 47))⟩]
def f68b4 : AQ := (.seq (.region f68r3) f68b2)
def f68r5 : List AI := [⟨none, (.mov 35 (.t 12))⟩, ⟨none, (.mov 36 (.t 6))⟩, ⟨none, (.mov 37 (.t 9))⟩, ⟨none, (.bin 38 .mul (.t 36) (.t 37))⟩, ⟨none, (.bin 39 .add (.t 35) (.t 38))⟩, ⟨none, (.mov 12 (.t 39))⟩]
def f68b6 : AQ := (.seq (.region f68r5) f68b4)
def f68r7 : List AI := [⟨none, (.mov 33 (.t 11))⟩, ⟨none, (.bin 34 .shr (.t 33) (.v (.k (.c (.int .u64 32)))))⟩, ⟨none, (.mov 13 (.t 34))⟩]
def f68b8 : AQ := (.seq (.region f68r7) f68b6)
def f68r9 : List AI := [⟨none, (.mov 31 (.t 11))⟩, ⟨none, (.bin 32 .and (.t 31) (.v (.k (.c (.int .u64 4294967295)))))⟩, ⟨none, (.mov 12 (.t 32))⟩]
def f68b10 : AQ := (.seq (.region f68r9) f68b8)
def f68r11 : List AI := [⟨none, (.mov 25 (.t 7))⟩, ⟨none, (.mov 26 (.t 8))⟩, ⟨none, (.bin 27 .mul (.t 25) (.t 26))⟩, ⟨none, (.mov 28 (.t 10))⟩, ⟨none, (.bin 29 .shr (.t 28) (.v (.k (.c (.int .u64 32)))))⟩, ⟨none, (.bin 30 .add (.t 27) (.t 29))⟩, ⟨none, (.mov 11 (.t 30))⟩]
def f68b12 : AQ := (.seq (.region f68r11) f68b10)
def f68r13 : List AI := [⟨none, (.mov 22 (.t 6))⟩, ⟨none, (.mov 23 (.t 8))⟩, ⟨none, (.bin 24 .mul (.t 22) (.t 23))⟩, ⟨none, (.mov 10 (.t 24))⟩]
def f68b14 : AQ := (.seq (.region f68r13) f68b12)
def f68r15 : List AI := [⟨none, (.mov 20 (.t 1))⟩, ⟨none, (.bin 21 .shr (.t 20) (.v (.k (.c (.int .u64 32)))))⟩, ⟨none, (.mov 9 (.t 21))⟩]
def f68b16 : AQ := (.seq (.region f68r15) f68b14)
def f68r17 : List AI := [⟨none, (.mov 18 (.t 1))⟩, ⟨none, (.bin 19 .and (.t 18) (.v (.k (.c (.int .u64 4294967295)))))⟩, ⟨none, (.mov 8 (.t 19))⟩]
def f68b18 : AQ := (.seq (.region f68r17) f68b16)
def f68r19 : List AI := [⟨none, (.mov 16 (.t 0))⟩, ⟨none, (.bin 17 .shr (.t 16) (.v (.k (.c (.int .u64 32)))))⟩, ⟨none, (.mov 7 (.t 17))⟩]
def f68b20 : AQ := (.seq (.region f68r19) f68b18)
def f68r21 : List AI := [⟨none, (.mov 14 (.t 0))⟩, ⟨none, (.bin 15 .and (.t 14) (.v (.k (.c (.int .u64 4294967295)))))⟩, ⟨none, (.mov 6 (.t 15))⟩]
def f68b22 : AQ := (.seq (.region f68r21) f68b20)
def f68r23 : List AI := [⟨none, (.mov 4 (.v (.k (.c (.int .u64 0)))))⟩, ⟨none, (.mov 5 (.v (.k (.c (.int .u64 0)))))⟩]
def f68b24 : AQ := (.seq (.region f68r23) f68b22)
def f68 : AQ := f68b24
theorem hf68 : cFunc Tryz.prog 68 = some ⟨51, f68.erase, [(RX.t 4), (RX.t 5)]⟩ := by kernel_rfl
theorem okf68 : f68.ok = true := by kernel_rfl
def f69r1 : List AI := [⟨none, (.mov 5 (.t 0))⟩, ⟨none, (.lenS 6 (.t 5))⟩, ⟨none, (.mov 7 (.t 1))⟩, ⟨none, (.lenS 8 (.t 7))⟩, ⟨none, (.bin 9 .geq (.t 6) (.t 8))⟩, ⟨none, (.mov 10 (.t 9))⟩, ⟨(some (10, true)), (.mov 11 (.t 0))⟩, ⟨(some (10, true)), (.mov 12 (.t 1))⟩, ⟨(some (10, true)), (.lenS 13 (.t 12))⟩, ⟨(some (10, true)), (.slstr 14 (.t 11) none (some (.t 13)))⟩, ⟨(some (10, true)), (.mov 15 (.t 1))⟩, ⟨(some (10, true)), (.bin 16 .eql (.t 14) (.t 15))⟩, ⟨none, (.pick 17 (.t 10) (.t 16) (.v (.k (.c (.bool false)))))⟩, ⟨none, (.mov 4 (.t 17))⟩]
def f69b2 : AQ := (.seq (.region f69r1) .ret)
def f69r3 : List AI := [⟨none, (.mov 4 (.v (.k (.c (.bool false)))))⟩]
def f69b4 : AQ := (.seq (.region f69r3) f69b2)
def f69 : AQ := f69b4
theorem hf69 : cFunc Tryz.prog 69 = some ⟨18, f69.erase, [(RX.t 4)]⟩ := by kernel_rfl
theorem okf69 : f69.ok = true := by kernel_rfl
def f3r1 : List AI := [⟨none, (.mov 257 (.t 9))⟩, ⟨none, (.mov 8 (.t 257))⟩]
def f3b2 : AQ := (.seq (.region f3r1) .ret)
def f3r3 : List AI := [⟨none, (.mov 56 (.t 12))⟩, ⟨none, (.bin 57 .add (.t 56) (.v (.k (.c (.int .i64 1)))))⟩, ⟨none, (.mov 12 (.t 57))⟩]
def f3r4 : List AI := [⟨none, (.mov 8 (.v (.k (.c (.bool false)))))⟩]
def f3b5 : AQ := (.seq (.region f3r4) .ret)
def f3b6 : AQ := (.cond (.t 256) f3b5 .skip)
def f3r7 : List AI := [⟨none, (.mov 220 (.t 21))⟩, ⟨none, (.bin 221 .eql (.t 220) (.v (.k (.c (.int .i64 0)))))⟩, ⟨none, (.mov 222 (.t 221))⟩, ⟨(some (222, true)), (.mov 223 (.t 27))⟩, ⟨(some (222, true)), (.bin 224 .eql (.t 223) (.v (.k (.c (.int .i64 4)))))⟩, ⟨(some (222, true)), (.mov 225 (.t 28))⟩, ⟨(some (222, true)), (.binB 226 true (.t 224) (.t 225))⟩, ⟨none, (.pick 227 (.t 222) (.t 226) (.v (.k (.c (.bool false)))))⟩, ⟨none, (.mov 228 (.t 227))⟩, ⟨(some (228, false)), (.mov 229 (.t 21))⟩, ⟨(some (228, false)), (.bin 230 .neq (.t 229) (.v (.k (.c (.int .i64 0)))))⟩, ⟨(some (228, false)), (.mov 231 (.t 230))⟩, ⟨(some (231, true)), (.mov 232 (.t 27))⟩, ⟨(some (231, true)), (.mov 233 (.t 21))⟩, ⟨(some (231, true)), (.bin 234 .neq (.t 232) (.t 233))⟩, ⟨(some (228, false)), (.pick 235 (.t 231) (.t 234) (.v (.k (.c (.bool false)))))⟩, ⟨none, (.pick 236 (.t 228) (.v (.k (.c (.bool true)))) (.t 235))⟩, ⟨none, (.mov 237 (.t 236))⟩, ⟨(some (237, false)), (.mov 238 (.t 27))⟩, ⟨(some (237, false)), (.bin 239 .neq (.t 238) (.v (.k (.c (.int .i64 0)))))⟩, ⟨(some (237, false)), (.mov 240 (.t 239))⟩, ⟨(some (240, true)), (.mov 241 (.t 26))⟩, ⟨(some (240, true)), (.bin 242 .neq (.t 241) (.v (.k (.c (.str [])))))⟩, ⟨(some (237, false)), (.pick 243 (.t 240) (.t 242) (.v (.k (.c (.bool false)))))⟩, ⟨none, (.pick 244 (.t 237) (.v (.k (.c (.bool true)))) (.t 243))⟩, ⟨none, (.mov 245 (.t 244))⟩, ⟨(some (245, false)), (.mov 246 (.t 27))⟩, ⟨(some (245, false)), (.bin 247 .eql (.t 246) (.v (.k (.c (.int .i64 0)))))⟩, ⟨(some (245, false)), (.mov 248 (.t 247))⟩, ⟨(some (248, true)), (.mov 249 (.t 26))⟩, ⟨(some (248, true)), (.mov 250 (.t 20))⟩, ⟨(some (248, true)), (.mov 251 (.t 3))⟩, ⟨(some (248, true)), (.iaddr 252 1 (.t 250) (.t 251))⟩, ⟨(some (248, true)), (.load 253 1 false (.t 252))⟩, ⟨(some (248, true)), (.bin 254 .neq (.t 249) (.t 253))⟩, ⟨(some (245, false)), (.pick 255 (.t 248) (.t 254) (.v (.k (.c (.bool false)))))⟩, ⟨none, (.pick 256 (.t 245) (.v (.k (.c (.bool true)))) (.t 255))⟩]
def f3b8 : AQ := (.seq (.region f3r7) f3b6)
def f3r9 : List AI := [⟨none, (.mov 212 (.t 3))⟩, ⟨none, (.bin 213 .lss (.t 212) (.v (.k (.c (.int .i64 0)))))⟩, ⟨none, (.mov 214 (.t 213))⟩, ⟨(some (214, false)), (.mov 215 (.t 3))⟩, ⟨(some (214, false)), (.mov 216 (.t 20))⟩, ⟨(some (214, false)), (.len 217 (.t 216))⟩, ⟨(some (214, false)), (.bin 218 .geq (.t 215) (.t 217))⟩, ⟨none, (.pick 219 (.t 214) (.v (.k (.c (.bool true)))) (.t 218))⟩, ⟨none, (.mov 28 (.t 219))⟩]
def f3b10 : AQ := (.seq (.region f3r9) f3b8)
def f3r11 : List AI := [⟨none, (.mov 8 (.v (.k (.c (.bool false)))))⟩]
def f3b12 : AQ := (.seq (.region f3r11) .ret)
def f3b13 : AQ := (.cond (.t 211) f3b12 .skip)
def f3r14 : List AI := [⟨none, (.mov 192 (.t 21))⟩, ⟨none, (.mov 193 (.t 23))⟩, ⟨none, (.bin 194 .neq (.t 192) (.t 193))⟩, ⟨none, (.mov 195 (.t 194))⟩, ⟨(some (195, false)), (.mov 196 (.t 20))⟩, ⟨(some (195, false)), (.mov 197 (.t 22))⟩, ⟨(some (195, false)), (.call (some 198) 20 [(.t 196), (.t 197)])⟩, ⟨(some (195, false)), (.un 199 .not (.t 198))⟩, ⟨none, (.pick 200 (.t 195) (.v (.k (.c (.bool true)))) (.t 199))⟩, ⟨none, (.mov 201 (.t 200))⟩, ⟨(some (201, false)), (.mov 202 (.t 24))⟩, ⟨(some (201, false)), (.mov 203 (.t 20))⟩, ⟨(some (201, false)), (.len 204 (.t 203))⟩, ⟨(some (201, false)), (.bin 205 .neq (.t 202) (.t 204))⟩, ⟨none, (.pick 206 (.t 201) (.v (.k (.c (.bool true)))) (.t 205))⟩, ⟨none, (.mov 207 (.t 206))⟩, ⟨(some (207, false)), (.mov 208 (.t 25))⟩, ⟨(some (207, false)), (.mov 209 (.t 21))⟩, ⟨(some (207, false)), (.bin 210 .neq (.t 208) (.t 209))⟩, ⟨none, (.pick 211 (.t 207) (.v (.k (.c (.bool true)))) (.t 210))⟩]
def f3b15 : AQ := (.seq (.region f3r14) f3b13)
def f3b16 : AQ := (.seq f3b15 f3b10)
def f3r17 : List AI := [⟨none, (.load 187 4 true (.t 10))⟩, ⟨none, (.mov 188 (.t 3))⟩, ⟨none, (.call (some 189) 19 [(.t 187), (.t 188)])⟩, ⟨none, (.mov 186 (.t 189))⟩, ⟨none, (.extr 190 (.t 186) 0)⟩, ⟨none, (.extr 191 (.t 186) 1)⟩, ⟨none, (.mov 26 (.t 190))⟩, ⟨none, (.mov 27 (.t 191))⟩]
def f3b18 : AQ := (.seq (.region f3r17) f3b16)
def f3r19 : List AI := [⟨none, (.load 182 4 true (.t 10))⟩, ⟨none, (.call (some 183) 18 [(.t 182)])⟩, ⟨none, (.mov 181 (.t 183))⟩, ⟨none, (.extr 184 (.t 181) 0)⟩, ⟨none, (.extr 185 (.t 181) 1)⟩, ⟨none, (.mov 24 (.t 184))⟩, ⟨none, (.mov 25 (.t 185))⟩]
def f3b20 : AQ := (.seq (.region f3r19) f3b18)
def f3r21 : List AI := [⟨none, (.load 177 4 true (.t 10))⟩, ⟨none, (.call (some 178) 17 [(.t 177)])⟩, ⟨none, (.mov 176 (.t 178))⟩, ⟨none, (.extr 179 (.t 176) 0)⟩, ⟨none, (.extr 180 (.t 176) 1)⟩, ⟨none, (.mov 22 (.t 179))⟩, ⟨none, (.mov 23 (.t 180))⟩]
def f3b22 : AQ := (.seq (.region f3r21) f3b20)
def f3r23 : List AI := [⟨none, (.load 172 4 true (.t 10))⟩, ⟨none, (.call (some 173) 16 [(.t 172)])⟩, ⟨none, (.mov 171 (.t 173))⟩, ⟨none, (.extr 174 (.t 171) 0)⟩, ⟨none, (.extr 175 (.t 171) 1)⟩, ⟨none, (.mov 20 (.t 174))⟩, ⟨none, (.mov 21 (.t 175))⟩]
def f3b24 : AQ := (.seq (.region f3r23) f3b22)
def f3r25 : List AI := [⟨none, (.load 170 4 true (.t 14))⟩, ⟨none, (.store 4 (.t 10) (.t 170))⟩]
def f3b26 : AQ := (.cond (.t 169) (.region f3r25) .skip)
def f3r27 : List AI := [⟨none, (.mov 158 (.t 15))⟩, ⟨none, (.bin 159 .eql (.t 158) (.v (.k (.c (.int .i64 0)))))⟩, ⟨none, (.mov 160 (.t 159))⟩, ⟨(some (160, false)), (.mov 161 (.t 15))⟩, ⟨(some (160, false)), (.bin 162 .eql (.t 161) (.v (.k (.c (.int .i64 8)))))⟩, ⟨(some (160, false)), (.mov 163 (.t 162))⟩, ⟨(some (163, true)), (.faddr 164 0 (.t 14))⟩, ⟨(some (163, true)), (.load 165 1 false (.t 164))⟩, ⟨(some (163, true)), (.len 166 (.t 165))⟩, ⟨(some (163, true)), (.bin 167 .gtr (.t 166) (.v (.k (.c (.int .i64 0)))))⟩, ⟨(some (160, false)), (.pick 168 (.t 163) (.t 167) (.v (.k (.c (.bool false)))))⟩, ⟨none, (.pick 169 (.t 160) (.v (.k (.c (.bool true)))) (.t 168))⟩]
def f3b28 : AQ := (.seq (.region f3r27) f3b26)
def f3b29 : AQ := (.seq f3b28 (.keep [2, 3, 9, 10, 12] [10, 37, 49, 71, 100, 108, 116, 124, 155, 38000, 38001, 38002, 50000, 50001, 50002, 72000, 72001, 72002, 101000, 101001, 101002, 109000, 109001, 109002, 117000, 117001, 117002, 125000, 125001, 125002, 156000, 156001, 156002] f3b24))
def f3r30o0 : AI := ⟨none, (.load 145 4 true (.t 10))⟩
def f3r30o1 : AI := ⟨none, (.faddr 146 2 (.t 13))⟩
def f3r30o2 : AI := ⟨none, (.load 147 1 false (.t 146))⟩
def f3r30o3 : AI := ⟨none, (.faddr 148 1 (.t 13))⟩
def f3r30o4 : AI := ⟨none, (.load 149 1 false (.t 148))⟩
def f3r30o5 : AI := ⟨none, (.faddr 150 1 (.t 13))⟩
def f3r30o6 : AI := ⟨none, (.load 151 1 false (.t 150))⟩
def f3r30o7 : AI := ⟨none, (.lenS 152 (.t 151))⟩
def f3r30o8 : AI := ⟨none, (.minmax 153 false (.t 152) [(.v (.k (.c (.int .i64 16))))])⟩
def f3r30o9 : AI := ⟨none, (.slstr 154 (.t 149) none (some (.t 153)))⟩
def f3r30o10 : AI := ⟨none, (.call (some 155) 15 [(.t 145), (.t 147), (.t 154)])⟩
def f3r30o11 : AI := ⟨none, (.mov 144 (.t 155))⟩
def f3r30o12 : AI := ⟨none, (.extr 156 (.t 144) 0)⟩
def f3r30o13 : AI := ⟨none, (.extr 157 (.t 144) 1)⟩
def f3r30o14 : AI := ⟨none, (.store 4 (.t 14) (.t 156))⟩
def f3r30o15 : AI := ⟨none, (.mov 15 (.t 157))⟩
def f3r30 : List AI := [f3r30o0, f3r30o1, f3r30o2, f3r30o3, f3r30o4, f3r30o5, f3r30o6, f3r30o7, f3r30o8, f3r30o9, f3r30o10, f3r30o11, f3r30o12, f3r30o13, f3r30o14, f3r30o15]
theorem utf3r30 : treeOf f3r30 [[], [], [1], [], [3], [], [5], [6], [7], [4, 8], [0, 2, 9], [10], [11], [11], [12, 10, 0, 1, 2, 3, 4, 5, 6, 7, 8, 9, 10, 11, 12], [13, 14, 0, 1, 2, 3, 4, 5, 6, 7, 8, 9, 10, 11, 12, 13, 14]] = (.one f3r30o0 (.one f3r30o1 (.one f3r30o2 (.one f3r30o3 (.one f3r30o4 (.one f3r30o5 (.one f3r30o6 (.one f3r30o7 (.one f3r30o8 (.one f3r30o9 (.one f3r30o10 (.one f3r30o11 (.one f3r30o12 (.alt (.one f3r30o13 (.one f3r30o14 (.one f3r30o15 .done))) (.alt (.one f3r30o14 (.one f3r30o13 (.one f3r30o15 .done))) .top))))))))))))))) := by kernel_rfl
def f3b31 : AQ := (.cond (.t 143) (.tree f3r30 [[], [], [1], [], [3], [], [5], [6], [7], [4, 8], [0, 2, 9], [10], [11], [11], [12, 10, 0, 1, 2, 3, 4, 5, 6, 7, 8, 9, 10, 11, 12], [13, 14, 0, 1, 2, 3, 4, 5, 6, 7, 8, 9, 10, 11, 12, 13, 14]]) .skip)
def f3r32 : List AI := [⟨none, (.faddr 141 0 (.t 13))⟩, ⟨none, (.load 142 1 false (.t 141))⟩, ⟨none, (.bin 143 .eql (.t 142) (.v (.k (.c (.int .i64 5)))))⟩]
def f3b33 : AQ := (.seq (.region f3r32) f3b31)
def f3b34 : AQ := (.seq f3b33 (.keep [2, 3, 9, 10, 12, 14, 15] [10, 14, 37, 49, 71, 100, 108, 116, 124, 155, 38000, 38001, 38002, 50000, 50001, 50002, 72000, 72001, 72002, 101000, 101001, 101002, 109000, 109001, 109002, 117000, 117001, 117002, 125000, 125001, 125002, 156000, 156001, 156002] f3b29))
def f3r35 : List AI := [⟨none, (.mov 8 (.v (.k (.c (.bool false)))))⟩]
def f3b36 : AQ := (.seq (.region f3r35) .ret)
def f3b37 : AQ := (.cond (.t 140) f3b36 .skip)
def f3r38 : List AI := [⟨none, (.mov 132 (.t 15))⟩, ⟨none, (.mov 133 (.t 19))⟩, ⟨none, (.bin 134 .neq (.t 132) (.t 133))⟩, ⟨none, (.mov 135 (.t 134))⟩, ⟨(some (135, false)), (.load 136 4 true (.t 14))⟩, ⟨(some (135, false)), (.load 137 4 true (.t 18))⟩, ⟨(some (135, false)), (.call (some 138) 10 [(.t 136), (.t 137)])⟩, ⟨(some (135, false)), (.un 139 .not (.t 138))⟩, ⟨none, (.pick 140 (.t 135) (.v (.k (.c (.bool true)))) (.t 139))⟩]
def f3b39 : AQ := (.seq (.region f3r38) f3b37)
def f3r40 : List AI := [⟨none, (.load 128 4 true (.t 10))⟩, ⟨none, (.call (some 129) 14 [(.t 128)])⟩, ⟨none, (.mov 127 (.t 129))⟩, ⟨none, (.extr 130 (.t 127) 0)⟩, ⟨none, (.extr 131 (.t 127) 1)⟩, ⟨none, (.alloc 18 27 [(.list 0 (some true) []), (.list 0 (some true) []), (.int .i64 0), (.bool false)])⟩, ⟨none, (.store 4 (.t 18) (.t 130))⟩, ⟨none, (.mov 19 (.t 131))⟩]
def f3b41 : AQ := (.seq (.region f3r40) f3b39)
def f3r42 : List AI := [⟨none, (.load 123 4 true (.t 10))⟩, ⟨none, (.call (some 124) 7 [(.t 123)])⟩, ⟨none, (.mov 122 (.t 124))⟩, ⟨none, (.extr 125 (.t 122) 0)⟩, ⟨none, (.extr 126 (.t 122) 1)⟩, ⟨none, (.store 4 (.t 14) (.t 125))⟩, ⟨none, (.mov 15 (.t 126))⟩]
def f3b43 : AQ := (.seq (.region f3r42) f3b41)
def f3b44 : AQ := (.cond (.t 121) f3b43 .skip)
def f3r45 : List AI := [⟨none, (.faddr 119 0 (.t 13))⟩, ⟨none, (.load 120 1 false (.t 119))⟩, ⟨none, (.bin 121 .eql (.t 120) (.v (.k (.c (.int .i64 4)))))⟩]
def f3b46 : AQ := (.seq (.region f3r45) f3b44)
def f3b47 : AQ := (.seq f3b46 f3b34)
def f3r48 : List AI := [⟨none, (.load 115 4 true (.t 10))⟩, ⟨none, (.call (some 116) 13 [(.t 115)])⟩, ⟨none, (.mov 114 (.t 116))⟩, ⟨none, (.extr 117 (.t 114) 0)⟩, ⟨none, (.extr 118 (.t 114) 1)⟩, ⟨none, (.store 4 (.t 14) (.t 117))⟩, ⟨none, (.mov 15 (.t 118))⟩]
def f3b49 : AQ := (.cond (.t 113) (.region f3r48) .skip)
def f3r50 : List AI := [⟨none, (.faddr 111 0 (.t 13))⟩, ⟨none, (.load 112 1 false (.t 111))⟩, ⟨none, (.bin 113 .eql (.t 112) (.v (.k (.c (.int .i64 3)))))⟩]
def f3b51 : AQ := (.seq (.region f3r50) f3b49)
def f3b52 : AQ := (.seq f3b51 f3b47)
def f3r53 : List AI := [⟨none, (.load 107 4 true (.t 10))⟩, ⟨none, (.call (some 108) 12 [(.t 107)])⟩, ⟨none, (.mov 106 (.t 108))⟩, ⟨none, (.extr 109 (.t 106) 0)⟩, ⟨none, (.extr 110 (.t 106) 1)⟩, ⟨none, (.store 4 (.t 14) (.t 109))⟩, ⟨none, (.mov 15 (.t 110))⟩]
def f3b54 : AQ := (.cond (.t 105) (.region f3r53) .skip)
def f3r55 : List AI := [⟨none, (.faddr 103 0 (.t 13))⟩, ⟨none, (.load 104 1 false (.t 103))⟩, ⟨none, (.bin 105 .eql (.t 104) (.v (.k (.c (.int .i64 2)))))⟩]
def f3b56 : AQ := (.seq (.region f3r55) f3b54)
def f3b57 : AQ := (.seq f3b56 f3b52)
def f3r58 : List AI := [⟨none, (.load 97 4 true (.t 10))⟩, ⟨none, (.faddr 98 2 (.t 13))⟩, ⟨none, (.load 99 1 false (.t 98))⟩, ⟨none, (.call (some 100) 11 [(.t 97), (.t 99)])⟩, ⟨none, (.mov 96 (.t 100))⟩, ⟨none, (.extr 101 (.t 96) 0)⟩, ⟨none, (.extr 102 (.t 96) 1)⟩, ⟨none, (.store 4 (.t 14) (.t 101))⟩, ⟨none, (.mov 15 (.t 102))⟩]
def f3b59 : AQ := (.cond (.t 95) (.region f3r58) .skip)
def f3r60 : List AI := [⟨none, (.faddr 93 0 (.t 13))⟩, ⟨none, (.load 94 1 false (.t 93))⟩, ⟨none, (.bin 95 .eql (.t 94) (.v (.k (.c (.int .i64 1)))))⟩]
def f3b61 : AQ := (.seq (.region f3r60) f3b59)
def f3b62 : AQ := (.seq f3b61 f3b57)
def f3r63 : List AI := [⟨none, (.mov 8 (.v (.k (.c (.bool false)))))⟩]
def f3b64 : AQ := (.seq (.region f3r63) .ret)
def f3b65 : AQ := (.cond (.t 92) f3b64 .skip)
def f3r66 : List AI := [⟨none, (.mov 84 (.t 15))⟩, ⟨none, (.mov 85 (.t 17))⟩, ⟨none, (.bin 86 .neq (.t 84) (.t 85))⟩, ⟨none, (.mov 87 (.t 86))⟩, ⟨(some (87, false)), (.load 88 4 true (.t 14))⟩, ⟨(some (87, false)), (.load 89 4 true (.t 16))⟩, ⟨(some (87, false)), (.call (some 90) 10 [(.t 88), (.t 89)])⟩, ⟨(some (87, false)), (.un 91 .not (.t 90))⟩, ⟨none, (.pick 92 (.t 87) (.v (.k (.c (.bool true)))) (.t 91))⟩]
def f3b67 : AQ := (.seq (.region f3r66) f3b65)
def f3r68 : List AI := [⟨none, (.load 78 4 true (.t 10))⟩, ⟨none, (.faddr 79 1 (.t 13))⟩, ⟨none, (.load 80 1 false (.t 79))⟩, ⟨none, (.call (some 81) 9 [(.t 78), (.t 80)])⟩, ⟨none, (.mov 77 (.t 81))⟩, ⟨none, (.extr 82 (.t 77) 0)⟩, ⟨none, (.extr 83 (.t 77) 1)⟩, ⟨none, (.alloc 16 27 [(.list 0 (some true) []), (.list 0 (some true) []), (.int .i64 0), (.bool false)])⟩, ⟨none, (.store 4 (.t 16) (.t 82))⟩, ⟨none, (.mov 17 (.t 83))⟩]
def f3b69 : AQ := (.seq (.region f3r68) f3b67)
def f3b70 : AQ := (.cond (.t 76) f3b69 .skip)
def f3r71 : List AI := [⟨none, (.faddr 74 0 (.t 13))⟩, ⟨none, (.load 75 1 false (.t 74))⟩, ⟨none, (.bin 76 .eql (.t 75) (.v (.k (.c (.int .i64 0)))))⟩]
def f3b72 : AQ := (.seq (.region f3r71) f3b70)
def f3b73 : AQ := (.seq f3b72 f3b62)
def f3r74 : List AI := [⟨none, (.load 68 4 true (.t 10))⟩, ⟨none, (.faddr 69 1 (.t 13))⟩, ⟨none, (.load 70 1 false (.t 69))⟩, ⟨none, (.call (some 71) 8 [(.t 68), (.t 70)])⟩, ⟨none, (.mov 67 (.t 71))⟩, ⟨none, (.extr 72 (.t 67) 0)⟩, ⟨none, (.extr 73 (.t 67) 1)⟩, ⟨none, (.alloc 14 27 [(.list 0 (some true) []), (.list 0 (some true) []), (.int .i64 0), (.bool false)])⟩, ⟨none, (.store 4 (.t 14) (.t 72))⟩, ⟨none, (.mov 15 (.t 73))⟩]
def f3b75 : AQ := (.seq (.region f3r74) f3b73)
def f3r76 : List AI := [⟨none, (.mov 66 (.t 9))⟩, ⟨none, (.mov 8 (.t 66))⟩]
def f3b77 : AQ := (.seq (.region f3r76) .ret)
def f3b78 : AQ := (.cond (.t 65) f3b77 .skip)
def f3r79 : List AI := [⟨none, (.faddr 62 1 (.t 13))⟩, ⟨none, (.load 63 1 false (.t 62))⟩, ⟨none, (.lenS 64 (.t 63))⟩, ⟨none, (.bin 65 .gtr (.t 64) (.v (.k (.c (.int .i64 100)))))⟩]
def f3b80 : AQ := (.seq (.region f3r79) f3b78)
def f3b81 : AQ := (.seq f3b80 f3b75)
def f3r82 : List AI := [⟨none, (.mov 58 (.t 2))⟩, ⟨none, (.mov 59 (.t 12))⟩, ⟨none, (.iaddr 60 3 (.t 58) (.t 59))⟩, ⟨none, (.load 61 3 true (.t 60))⟩, ⟨none, (.alloc 13 34 [(.int .i64 0), (.str []), (.int .i64 0)])⟩, ⟨none, (.store 3 (.t 13) (.t 61))⟩]
def f3b83 : AQ := (.seq (.region f3r82) f3b81)
def f3b84 : AQ := (.block 1 f3b83)
def f3b85 : AQ := (.seq f3b84 (.region f3r3))
def f3b86 : AQ := (.cond (.t 55) .skip (.exit 0))
def f3r87 : List AI := [⟨none, (.mov 52 (.t 12))⟩, ⟨none, (.mov 53 (.t 2))⟩, ⟨none, (.len 54 (.t 53))⟩, ⟨none, (.bin 55 .lss (.t 52) (.t 54))⟩]
def f3b88 : AQ := (.seq (.region f3r87) f3b86)
def f3b89 : AQ := (.seq f3b88 f3b85)
def f3l90 : AQ := .loop [2, 3, 9, 10, 12] [10, 37, 49, 71, 100, 108, 116, 124, 155, 38000, 38001, 38002, 50000, 50001, 50002, 72000, 72001, 72002, 101000, 101001, 101002, 109000, 109001, 109002, 117000, 117001, 117002, 125000, 125001, 125002, 156000, 156001, 156002] f3b89
theorem uf3l90 (P ts os Q) : awl P f3l90 Q ts os = awl P (.loop [2, 3, 9, 10, 12] [10, 37, 49, 71, 100, 108, 116, 124, 155, 38000, 38001, 38002, 50000, 50001, 50002, 72000, 72001, 72002, 101000, 101001, 101002, 109000, 109001, 109002, 117000, 117001, 117002, 125000, 125001, 125002, 156000, 156001, 156002] f3b89) Q ts os := id rfl
def f3b91 : AQ := (.block 0 f3l90)
def f3r92 : List AI := [⟨none, (.mov 12 (.v (.k (.c (.int .i64 0)))))⟩]
def f3b93 : AQ := (.seq (.region f3r92) f3b91)
def f3b94 : AQ := (.seq f3b93 f3b2)
def f3r95 : List AI := [⟨none, (.load 48 4 true (.t 10))⟩, ⟨none, (.call (some 49) 7 [(.t 48)])⟩, ⟨none, (.mov 47 (.t 49))⟩, ⟨none, (.extr 50 (.t 47) 0)⟩, ⟨none, (.extr 51 (.t 47) 1)⟩, ⟨none, (.store 4 (.t 10) (.t 50))⟩]
def f3b96 : AQ := (.cond (.t 46) (.region f3r95) .skip)
def f3r97 : List AI := [⟨none, (.mov 40 (.t 1))⟩, ⟨none, (.mov 41 (.t 40))⟩, ⟨(some (41, true)), (.faddr 42 0 (.t 10))⟩, ⟨(some (41, true)), (.load 43 1 false (.t 42))⟩, ⟨(some (41, true)), (.len 44 (.t 43))⟩, ⟨(some (41, true)), (.bin 45 .gtr (.t 44) (.v (.k (.c (.int .i64 2)))))⟩, ⟨none, (.pick 46 (.t 41) (.t 45) (.v (.k (.c (.bool false)))))⟩]
def f3b98 : AQ := (.seq (.region f3r97) f3b96)
def f3b99 : AQ := (.seq f3b98 f3b94)
def f3r100 : List AI := [⟨none, (.mov 35 (.t 0))⟩, ⟨none, (.call (some 36) 6 [(.t 35)])⟩, ⟨none, (.call (some 37) 5 [(.t 36)])⟩, ⟨none, (.mov 34 (.t 37))⟩, ⟨none, (.extr 38 (.t 34) 0)⟩, ⟨none, (.extr 39 (.t 34) 1)⟩, ⟨none, (.alloc 10 27 [(.list 0 (some true) []), (.list 0 (some true) []), (.int .i64 0), (.bool false)])⟩, ⟨none, (.store 4 (.t 10) (.t 38))⟩, ⟨none, (.mov 11 (.t 39))⟩]
def f3b101 : AQ := (.seq (.region f3r100) f3b99)
def f3r102 : List AI := [⟨none, (.mov 33 (.t 9))⟩, ⟨none, (.mov 8 (.t 33))⟩]
def f3b103 : AQ := (.seq (.region f3r102) .ret)
def f3b104 : AQ := (.cond (.t 32) f3b103 .skip)
def f3r105 : List AI := [⟨none, (.mov 30 (.t 2))⟩, ⟨none, (.len 31 (.t 30))⟩, ⟨none, (.bin 32 .gtr (.t 31) (.v (.k (.c (.int .i64 20)))))⟩]
def f3b106 : AQ := (.seq (.region f3r105) f3b104)
def f3b107 : AQ := (.seq f3b106 f3b101)
def f3r108 : List AI := [⟨none, (.call (some 29) 4 [])⟩, ⟨none, (.mov 9 (.t 29))⟩]
def f3b109 : AQ := (.seq (.region f3r108) f3b107)
def f3r110 : List AI := [⟨none, (.mov 8 (.v (.k (.c (.bool false)))))⟩]
def f3b111 : AQ := (.seq (.region f3r110) f3b109)
def f3 : AQ := f3b111
theorem hf3 : cFunc Tryz.prog 3 = some ⟨258, f3.erase, [(RX.t 8)]⟩ := by kernel_rfl
theorem okf3 : f3.ok = true := by kernel_rfl
def f4r1 : List AI := [⟨none, (.mov 131 (.t 25))⟩, ⟨none, (.mov 132 (.t 131))⟩, ⟨(some (132, true)), (.mov 133 (.t 11))⟩, ⟨(some (132, true)), (.bslice 134 9 1 [(.str [])] 2 [(0, (.v (.k (.c (.str [97, 98]))))), (1, (.v (.k (.c (.str [])))))])⟩, ⟨(some (132, true)), (.call (some 135) 20 [(.t 133), (.t 134)])⟩, ⟨none, (.pick 136 (.t 132) (.t 135) (.v (.k (.c (.bool false)))))⟩, ⟨none, (.mov 137 (.t 136))⟩, ⟨(some (137, true)), (.mov 138 (.t 13))⟩, ⟨(some (137, true)), (.bin 139 .eql (.t 138) (.v (.k (.c (.int .i64 2)))))⟩, ⟨none, (.pick 140 (.t 137) (.t 139) (.v (.k (.c (.bool false)))))⟩, ⟨none, (.mov 141 (.t 140))⟩, ⟨(some (141, true)), (.mov 142 (.t 21))⟩, ⟨(some (141, true)), (.mov 143 (.t 11))⟩, ⟨(some (141, true)), (.call (some 144) 20 [(.t 142), (.t 143)])⟩, ⟨none, (.pick 145 (.t 141) (.t 144) (.v (.k (.c (.bool false)))))⟩, ⟨none, (.mov 146 (.t 145))⟩, ⟨(some (146, true)), (.mov 147 (.t 23))⟩, ⟨(some (146, true)), (.bin 148 .eql (.t 147) (.v (.k (.c (.str [97, 98])))))⟩, ⟨none, (.pick 149 (.t 146) (.t 148) (.v (.k (.c (.bool false)))))⟩, ⟨none, (.mov 0 (.t 149))⟩]
def f4b2 : AQ := (.seq (.region f4r1) .ret)
def f4r3 : List AI := [⟨none, (.mov 85 (.t 2))⟩, ⟨none, (.bin 86 .eql (.t 85) (.v (.k (.c (.int .i64 0)))))⟩, ⟨none, (.mov 87 (.t 86))⟩, ⟨(some (87, true)), (.mov 88 (.t 4))⟩, ⟨(some (87, true)), (.bin 89 .eql (.t 88) (.v (.k (.c (.int .i64 22)))))⟩, ⟨none, (.pick 90 (.t 87) (.t 89) (.v (.k (.c (.bool false)))))⟩, ⟨none, (.mov 91 (.t 90))⟩, ⟨(some (91, true)), (.mov 92 (.t 6))⟩, ⟨(some (91, true)), (.bin 93 .eql (.t 92) (.v (.k (.c (.int .i64 0)))))⟩, ⟨none, (.pick 94 (.t 91) (.t 93) (.v (.k (.c (.bool false)))))⟩, ⟨none, (.mov 95 (.t 94))⟩, ⟨(some (95, true)), (.mov 96 (.t 8))⟩, ⟨(some (95, true)), (.bin 97 .eql (.t 96) (.v (.k (.c (.int .i64 0)))))⟩, ⟨none, (.pick 98 (.t 95) (.t 97) (.v (.k (.c (.bool false)))))⟩, ⟨none, (.mov 99 (.t 98))⟩, ⟨(some (99, true)), (.mov 100 (.t 10))⟩, ⟨(some (99, true)), (.bin 101 .eql (.t 100) (.v (.k (.c (.int .i64 0)))))⟩, ⟨none, (.pick 102 (.t 99) (.t 101) (.v (.k (.c (.bool false)))))⟩, ⟨none, (.mov 103 (.t 102))⟩, ⟨(some (103, true)), (.mov 104 (.t 12))⟩, ⟨(some (103, true)), (.bin 105 .eql (.t 104) (.v (.k (.c (.int .i64 0)))))⟩, ⟨none, (.pick 106 (.t 103) (.t 105) (.v (.k (.c (.bool false)))))⟩, ⟨none, (.mov 107 (.t 106))⟩, ⟨(some (107, true)), (.mov 108 (.t 14))⟩, ⟨(some (107, true)), (.bin 109 .eql (.t 108) (.v (.k (.c (.int .i64 0)))))⟩, ⟨none, (.pick 110 (.t 107) (.t 109) (.v (.k (.c (.bool false)))))⟩, ⟨none, (.mov 111 (.t 110))⟩, ⟨(some (111, true)), (.mov 112 (.t 16))⟩, ⟨(some (111, true)), (.bin 113 .eql (.t 112) (.v (.k (.c (.int .i64 0)))))⟩, ⟨none, (.pick 114 (.t 111) (.t 113) (.v (.k (.c (.bool false)))))⟩, ⟨none, (.mov 115 (.t 114))⟩, ⟨(some (115, true)), (.mov 116 (.t 18))⟩, ⟨(some (115, true)), (.bin 117 .eql (.t 116) (.v (.k (.c (.int .i64 8)))))⟩, ⟨none, (.pick 118 (.t 115) (.t 117) (.v (.k (.c (.bool false)))))⟩, ⟨none, (.mov 119 (.t 118))⟩, ⟨(some (119, true)), (.mov 120 (.t 20))⟩, ⟨(some (119, true)), (.bin 121 .eql (.t 120) (.v (.k (.c (.int .i64 0)))))⟩, ⟨none, (.pick 122 (.t 119) (.t 121) (.v (.k (.c (.bool false)))))⟩, ⟨none, (.mov 123 (.t 122))⟩, ⟨(some (123, true)), (.mov 124 (.t 22))⟩, ⟨(some (123, true)), (.bin 125 .eql (.t 124) (.v (.k (.c (.int .i64 0)))))⟩, ⟨none, (.pick 126 (.t 123) (.t 125) (.v (.k (.c (.bool false)))))⟩, ⟨none, (.mov 127 (.t 126))⟩, ⟨(some (127, true)), (.mov 128 (.t 24))⟩, ⟨(some (127, true)), (.bin 129 .eql (.t 128) (.v (.k (.c (.int .i64 0)))))⟩, ⟨none, (.pick 130 (.t 127) (.t 129) (.v (.k (.c (.bool false)))))⟩, ⟨none, (.mov 25 (.t 130))⟩]
def f4b4 : AQ := (.seq (.region f4r3) f4b2)
def f4r5 : List AI := [⟨none, (.load 81 4 true (.t 9))⟩, ⟨none, (.call (some 82) 19 [(.t 81), (.v (.k (.c (.int .i64 0))))])⟩, ⟨none, (.mov 80 (.t 82))⟩, ⟨none, (.extr 83 (.t 80) 0)⟩, ⟨none, (.extr 84 (.t 80) 1)⟩, ⟨none, (.mov 23 (.t 83))⟩, ⟨none, (.mov 24 (.t 84))⟩]
def f4b6 : AQ := (.seq (.region f4r5) f4b4)
def f4r7 : List AI := [⟨none, (.load 76 4 true (.t 19))⟩, ⟨none, (.call (some 77) 17 [(.t 76)])⟩, ⟨none, (.mov 75 (.t 77))⟩, ⟨none, (.extr 78 (.t 75) 0)⟩, ⟨none, (.extr 79 (.t 75) 1)⟩, ⟨none, (.mov 21 (.t 78))⟩, ⟨none, (.mov 22 (.t 79))⟩]
def f4b8 : AQ := (.seq (.region f4r7) f4b6)
def f4r9 : List AI := [⟨none, (.load 71 4 true (.t 17))⟩, ⟨none, (.call (some 72) 13 [(.t 71)])⟩, ⟨none, (.mov 70 (.t 72))⟩, ⟨none, (.extr 73 (.t 70) 0)⟩, ⟨none, (.extr 74 (.t 70) 1)⟩, ⟨none, (.alloc 19 27 [(.list 0 (some true) []), (.list 0 (some true) []), (.int .i64 0), (.bool false)])⟩, ⟨none, (.store 4 (.t 19) (.t 73))⟩, ⟨none, (.mov 20 (.t 74))⟩]
def f4b10 : AQ := (.seq (.region f4r9) f4b8)
def f4r11 : List AI := [⟨none, (.load 66 4 true (.t 15))⟩, ⟨none, (.call (some 67) 9 [(.t 66), (.v (.k (.c (.str [99]))))])⟩, ⟨none, (.mov 65 (.t 67))⟩, ⟨none, (.extr 68 (.t 65) 0)⟩, ⟨none, (.extr 69 (.t 65) 1)⟩, ⟨none, (.alloc 17 27 [(.list 0 (some true) []), (.list 0 (some true) []), (.int .i64 0), (.bool false)])⟩, ⟨none, (.store 4 (.t 17) (.t 68))⟩, ⟨none, (.mov 18 (.t 69))⟩]
def f4b12 : AQ := (.seq (.region f4r11) f4b10)
def f4r13 : List AI := [⟨none, (.load 61 4 true (.t 9))⟩, ⟨none, (.call (some 62) 11 [(.t 61), (.v (.k (.c (.int .i64 1))))])⟩, ⟨none, (.mov 60 (.t 62))⟩, ⟨none, (.extr 63 (.t 60) 0)⟩, ⟨none, (.extr 64 (.t 60) 1)⟩, ⟨none, (.alloc 15 27 [(.list 0 (some true) []), (.list 0 (some true) []), (.int .i64 0), (.bool false)])⟩, ⟨none, (.store 4 (.t 15) (.t 63))⟩, ⟨none, (.mov 16 (.t 64))⟩]
def f4b14 : AQ := (.seq (.region f4r13) f4b12)
def f4r15 : List AI := [⟨none, (.load 56 4 true (.t 9))⟩, ⟨none, (.call (some 57) 18 [(.t 56)])⟩, ⟨none, (.mov 55 (.t 57))⟩, ⟨none, (.extr 58 (.t 55) 0)⟩, ⟨none, (.extr 59 (.t 55) 1)⟩, ⟨none, (.mov 13 (.t 58))⟩, ⟨none, (.mov 14 (.t 59))⟩]
def f4b16 : AQ := (.seq (.region f4r15) f4b14)
def f4r17 : List AI := [⟨none, (.load 51 4 true (.t 9))⟩, ⟨none, (.call (some 52) 17 [(.t 51)])⟩, ⟨none, (.mov 50 (.t 52))⟩, ⟨none, (.extr 53 (.t 50) 0)⟩, ⟨none, (.extr 54 (.t 50) 1)⟩, ⟨none, (.mov 11 (.t 53))⟩, ⟨none, (.mov 12 (.t 54))⟩]
def f4b18 : AQ := (.seq (.region f4r17) f4b16)
def f4r19 : List AI := [⟨none, (.load 46 4 true (.t 7))⟩, ⟨none, (.call (some 47) 9 [(.t 46), (.v (.k (.c (.str []))))])⟩, ⟨none, (.mov 45 (.t 47))⟩, ⟨none, (.extr 48 (.t 45) 0)⟩, ⟨none, (.extr 49 (.t 45) 1)⟩, ⟨none, (.alloc 9 27 [(.list 0 (some true) []), (.list 0 (some true) []), (.int .i64 0), (.bool false)])⟩, ⟨none, (.store 4 (.t 9) (.t 48))⟩, ⟨none, (.mov 10 (.t 49))⟩]
def f4b20 : AQ := (.seq (.region f4r19) f4b18)
def f4r21 : List AI := [⟨none, (.load 41 4 true (.t 5))⟩, ⟨none, (.call (some 42) 9 [(.t 41), (.v (.k (.c (.str [97, 98]))))])⟩, ⟨none, (.mov 40 (.t 42))⟩, ⟨none, (.extr 43 (.t 40) 0)⟩, ⟨none, (.extr 44 (.t 40) 1)⟩, ⟨none, (.alloc 7 27 [(.list 0 (some true) []), (.list 0 (some true) []), (.int .i64 0), (.bool false)])⟩, ⟨none, (.store 4 (.t 7) (.t 43))⟩, ⟨none, (.mov 8 (.t 44))⟩]
def f4b22 : AQ := (.seq (.region f4r21) f4b20)
def f4r23 : List AI := [⟨none, (.load 36 4 true (.t 1))⟩, ⟨none, (.call (some 37) 14 [(.t 36)])⟩, ⟨none, (.mov 35 (.t 37))⟩, ⟨none, (.extr 38 (.t 35) 0)⟩, ⟨none, (.extr 39 (.t 35) 1)⟩, ⟨none, (.alloc 5 27 [(.list 0 (some true) []), (.list 0 (some true) []), (.int .i64 0), (.bool false)])⟩, ⟨none, (.store 4 (.t 5) (.t 38))⟩, ⟨none, (.mov 6 (.t 39))⟩]
def f4b24 : AQ := (.seq (.region f4r23) f4b22)
def f4r25 : List AI := [⟨none, (.load 31 4 true (.t 1))⟩, ⟨none, (.call (some 32) 17 [(.t 31)])⟩, ⟨none, (.mov 30 (.t 32))⟩, ⟨none, (.extr 33 (.t 30) 0)⟩, ⟨none, (.extr 34 (.t 30) 1)⟩, ⟨none, (.mov 3 (.t 33))⟩, ⟨none, (.mov 4 (.t 34))⟩]
def f4b26 : AQ := (.seq (.region f4r25) f4b24)
def f4r27 : List AI := [⟨none, (.call (some 27) 5 [(.v (.k (.c (.int .i64 5))))])⟩, ⟨none, (.mov 26 (.t 27))⟩, ⟨none, (.extr 28 (.t 26) 0)⟩, ⟨none, (.extr 29 (.t 26) 1)⟩, ⟨none, (.alloc 1 27 [(.list 0 (some true) []), (.list 0 (some true) []), (.int .i64 0), (.bool false)])⟩, ⟨none, (.store 4 (.t 1) (.t 28))⟩, ⟨none, (.mov 2 (.t 29))⟩]
def f4b28 : AQ := (.seq (.region f4r27) f4b26)
def f4r29 : List AI := [⟨none, (.mov 0 (.v (.k (.c (.bool false)))))⟩]
def f4b30 : AQ := (.seq (.region f4r29) f4b28)
def f4 : AQ := f4b30
theorem hf4 : cFunc Tryz.prog 4 = some ⟨150, f4.erase, [(RX.t 0)]⟩ := by kernel_rfl
theorem okf4 : f4.ok = true := by kernel_rfl
def f6r1 : List AI := [⟨none, (.mov 3 (.t 0))⟩, ⟨none, (.bin 4 .rem (.t 3) (.v (.k (.c (.int .i64 40)))))⟩, ⟨none, (.bin 5 .add (.t 4) (.v (.k (.c (.int .i64 40)))))⟩, ⟨none, (.bin 6 .rem (.t 5) (.v (.k (.c (.int .i64 40)))))⟩, ⟨none, (.bin 7 .add (.v (.k (.c (.int .i64 1)))) (.t 6))⟩, ⟨none, (.mov 2 (.t 7))⟩]
def f6b2 : AQ := (.seq (.region f6r1) .ret)
def f6r3 : List AI := [⟨none, (.mov 2 (.v (.k (.c (.int .i64 0)))))⟩]
def f6b4 : AQ := (.seq (.region f6r3) f6b2)
def f6 : AQ := f6b4
theorem hf6 : cFunc Tryz.prog 6 = some ⟨8, f6.erase, [(RX.t 2)]⟩ := by kernel_rfl
theorem okf6 : f6.ok = true := by kernel_rfl
end Go.Abs


namespace Go.Abs
theorem wrap_in {n : Int} (h1 : -9223372036854775808 ≤ n) (h2 : n ≤ 9223372036854775807) : IntKind.i64.wrap n = n := IntWalk.i64_in n ⟨h1, h2⟩
def lstC (sz : Nat) (rows : List (List C)) : C := .list (if rows.isEmpty then 0 else sz) none rows
abbrev lst (sz : Nat) (rows : List (List C)) : V := .k (.c (lstC sz rows))
def ints (l : List Int) : List (List C) := l.map fun n => [.int .i64 n]
theorem normRows_eq {α : Type} {f : α → List C} (hf : ∀ x, C.normRow (f x) = f x) (l : List α) : C.normRows (l.map f) = l.map f := by
  induction l with
  | nil => rfl
  | cons a l ih => simp [C.normRows, hf, ih]
theorem lstC_norm {α : Type} {f : α → List C} (hf : ∀ x, C.normRow (f x) = f x) (sz : Nat) (l : List α) : (lstC sz (l.map f)).norm = lstC sz (l.map f) := by
  unfold lstC
  simp only [C.norm, normRows_eq hf]
  cases l <;> simp
inductive Term where
  | mk (op n : Int) (args : List Term)
  deriving Inhabited
def Term.op : Term → Int | .mk o _ _ => o
def Term.n : Term → Int | .mk _ n _ => n
def Term.args : Term → List Term | .mk _ _ a => a
mutual
def encT : Term → List C
  | .mk o n a => [.int .i64 o, .int .i64 n, lstC 3 (encTs a)]
def encTs : List Term → List (List C)
  | [] => []
  | t :: l => encT t :: encTs l
end
theorem encTs_map : ∀ (l : List Term), encTs l = l.map encT
  | [] => rfl
  | t :: l => by simp [encTs, encTs_map l]
theorem encT_eq (t : Term) : encT t = [.int .i64 t.op, .int .i64 t.n, lstC 3 (t.args.map encT)] := by
  cases t with
  | mk o n a => simp [encT, Term.op, Term.n, Term.args, encTs_map]
mutual
theorem encT_norm : ∀ (t : Term), C.normRow (encT t) = encT t
  | .mk o n a => by
    simp only [encT, C.normRow, C.norm, lstC, encTs_norm a]
    cases a <;> simp [encTs]
theorem encTs_norm : ∀ (l : List Term), C.normRows (encTs l) = encTs l
  | [] => rfl
  | t :: l => by simp only [encTs, C.normRows, encT_norm t, encTs_norm l]
end
structure Choice where
  ask : Int
  by_ : Int
  whole : Bool
  deriving Inhabited
structure Rule where
  ask : Int
  term : Term
  deriving Inhabited
structure Order where
  name : List UInt8
  accepts : Bool
  choices : List Choice
  rules : List Rule
  deriving Inhabited
def encChoice (c : Choice) : List C := [.int .i64 c.ask, .int .i64 c.by_, .bool c.whole]
def encRule (r : Rule) : List C := .int .i64 r.ask :: encT r.term
def encOrder (o : Order) : List C := [.str o.name, .bool o.accepts, lstC 3 (o.choices.map encChoice), lstC 4 (o.rules.map encRule)]
theorem encChoice_norm (c : Choice) : C.normRow (encChoice c) = encChoice c := rfl
theorem encRule_norm (r : Rule) : C.normRow (encRule r) = encRule r := by simp [encRule, C.normRow, C.norm, encT_norm]
theorem encOrder_norm (o : Order) : C.normRow (encOrder o) = encOrder o := by
  simp only [encOrder, C.normRow, C.norm, lstC_norm encChoice_norm, lstC_norm encRule_norm]
structure Cell where
  known : Bool
  n : Int
  deriving Inhabited
def encCell (c : Cell) : List C := [.bool c.known, .int .i64 c.n]
theorem encCell_norm (c : Cell) : C.normRow (encCell c) = encCell c := rfl
def encI (n : Int) : List C := [.int .i64 n]
@[simp] theorem normRow_int (k : IntKind) (n : Int) : C.normRow [.int k n] = [.int k n] := rfl
@[simp] theorem normRow_encI (n : Int) : C.normRow (encI n) = encI n := rfl
attribute [simp] encT_norm encChoice_norm encRule_norm encOrder_norm encCell_norm C.normRow
@[simp] theorem norm_int (k : IntKind) (n : Int) : (C.int k n).norm = .int k n := rfl
@[simp] theorem norm_bool (b : Bool) : (C.bool b).norm = .bool b := rfl
@[simp] theorem norm_str (s : List UInt8) : (C.str s).norm = .str s := rfl
@[simp] theorem norm_ro (row : List C) (off : Nat) : (C.ro row off).norm = .ro (C.normRow row) off := rfl
@[simp] theorem norm_fn (f : FuncId) (caps : List C) : (C.fn f caps).norm = .fn f (C.normRow caps) := rfl
@[simp] theorem normRows_T (l : List Term) : C.normRows (l.map encT) = l.map encT := normRows_eq encT_norm l
@[simp] theorem normRows_Ch (l : List Choice) : C.normRows (l.map encChoice) = l.map encChoice := normRows_eq encChoice_norm l
@[simp] theorem normRows_R (l : List Rule) : C.normRows (l.map encRule) = l.map encRule := normRows_eq encRule_norm l
@[simp] theorem normRows_O (l : List Order) : C.normRows (l.map encOrder) = l.map encOrder := normRows_eq encOrder_norm l
@[simp] theorem normRows_Ce (l : List Cell) : C.normRows (l.map encCell) = l.map encCell := normRows_eq encCell_norm l
@[simp] theorem normRows_ints (l : List Int) : C.normRows (ints l) = ints l := normRows_eq (fun _ => rfl) l
@[simp] theorem normRows_nil : C.normRows [] = [] := rfl
@[simp] theorem normRows_cons (r : List C) (l : List (List C)) : C.normRows (r :: l) = C.normRow r :: C.normRows l := rfl
@[simp] theorem ints_len (l : List Int) : (ints l).length = l.length := by simp [ints]
@[simp] theorem ints_isEmpty (l : List Int) : (ints l).isEmpty = l.isEmpty := by cases l <;> rfl
theorem r_vLen_lst (o : Nat → Option O) (sz : Nat) (rows : List (List C)) : vLen o (.k (.c (lstC sz rows))) = some (True, .int .i64 rows.length) := rfl
theorem r_vIaddr_lst (o : Nat → Option O) (sz : Nat) (rows : List (List C)) (k : IntKind) (n : Int) : vIaddr o sz (.k (.c (lstC sz rows))) (.k (.c (.int k n))) = some (0 ≤ n ∧ n < rows.length, .k (.pel sz rows n.toNat 0)) := by
  simp only [lstC, vIaddr, Option.some.injEq, Prod.mk.injEq]
  cases rows with
  | nil => simp; omega
  | cons a l =>
    refine ⟨?_, ?_⟩
    · simp
    · simp
def cutS2 (sz : Nat) (rows : List (List C)) : Option Int → Option Int → Option (Prop × V)
  | some l, some h => some (0 ≤ l ∧ l ≤ h ∧ h ≤ rows.length, .list sz none ((rows.take h.toNat).drop l.toNat))
  | _, _ => none
theorem r_vSlice_lst (sz : Nat) (lo hi : Option V) (rows : List (List C)) : vSlice sz lo hi (.k (.c (lstC sz rows))) = cutS2 sz rows (vBound 0 lo) (vBound rows.length hi) := by
  simp only [lstC, vSlice]
  generalize vBound 0 lo = a
  generalize vBound (↑rows.length) hi = b
  cases a <;> cases b <;> simp only [cutL, cutS2]
  simp only [Option.some.injEq, Prod.mk.injEq, and_true]
  cases rows <;> simp
theorem r_cutS2 (sz : Nat) (rows : List (List C)) (l h : Int) : cutS2 sz rows (some l) (some h) = some (0 ≤ l ∧ l ≤ h ∧ h ≤ rows.length, .list sz none ((rows.take h.toNat).drop l.toNat)) := id rfl
@[simp] theorem norm_lst (sz : Nat) (rows : List (List C)) : (lstC sz rows).norm = lstC sz (C.normRows rows) := by
  unfold lstC
  simp only [C.norm]
  cases rows <;> simp [C.normRows]
@[simp] theorem norm_list (sz : Nat) (nl : Option Bool) (rows : List (List C)) : (C.list sz nl rows).norm = lstC sz (C.normRows rows) := by
  unfold lstC
  simp only [C.norm]
  cases rows <;> simp [C.normRows]
theorem r_all_noRef (d : Nat) (r : List C) : (r.map Abs.K.c).all (Abs.K.noRef d) = true := by induction r <;> simp_all [Abs.K.noRef]
theorem len_lst {sz : Nat} {rows : List (List C)} {l : List V} (hm : lst sz rows ∈ l) (h : ∀ v, v ∈ l → ∀ c, c ∈ v.topC → ∀ sz nl rows, c = .list sz nl rows → rows.length ≤ 9223372036854775807) : rows.length ≤ 9223372036854775807 :=
  h _ hm (lstC sz rows) (by simp [V.topC]) _ _ _ rfl
section
variable {P : Program} {f : FuncId} {vs : List V} {K : KK} {d : Nat} {ts : TS} {os : OS}
theorem call_s {args : List V} {r : V} {X : Prop} (hs : Spec P f args (fun r' => r' = r)) (hk : K (insT d r ts) os)
    (hp : vs.all (fun v => (lendL os v).isPure) = true := by simp [lendL, lendO, lookO, V.isPure])
    (ha : vs.map (fun v => (lendL os v).norm) = args := by simp [lendL, lendO, lookO, V.norm, encT_eq, encRule, encOrder, encChoice, encCell, norm_list, lst]) (hr : r.scalar = true := by rfl) : callK P f vs [] K (some d) ts os ∨ X := by
  refine .inl ⟨hp, r, .inl ?_, ?_⟩
  · simpa [ha] using hs
  · rw [if_pos hr]; exact hk
theorem call_r {args : List V} {r : V} {X : Prop} (hs : Spec P f args (fun r' => r' = r)) (hk : retK r K ts os (some d))
    (hp : vs.all (fun v => (lendL os v).isPure) = true := by simp [lendL, lendO, lookO, V.isPure])
    (ha : vs.map (fun v => (lendL os v).norm) = args := by simp [lendL, lendO, lookO, V.norm, encT_eq, encRule, encOrder, encChoice, encCell, norm_list, lst])
    (ht : vs.all (fun v => v.toks.isEmpty) = true := by simp [V.toks, K.toks]) (hr : r.scalar = false := by rfl) : callK P f vs [] K (some d) ts os ∨ X := by
  refine .inl ⟨hp, r, .inl (by simpa [ha] using hs), ?_⟩
  rw [if_neg (by simp [hr])]
  exact ⟨ht, hk⟩
theorem call_l {args : List V} {e sz : Nat} {nl : Option Bool} {rows : List (List C)} {X : Prop} (hs : Spec P f args (fun r' => r' = .k (.newl e sz nl rows))) (hk : K (insT d (.k (.own d)) ts) (insO d (.arr e sz nl rows) os))
    (hp : vs.all (fun v => (lendL os v).isPure) = true := by simp [lendL, lendO, lookO, V.isPure])
    (ha : vs.map (fun v => (lendL os v).norm) = args := by simp [lendL, lendO, lookO, V.norm, encT_eq, encRule, encOrder, encChoice, encCell, norm_list, lst])
    (ht : vs.all (fun v => v.toks.isEmpty) = true := by simp [V.toks, K.toks]) (hf : freeB d ts os := by first | rfl | simp [freeB, freeT, freeO, V.noRef, V.noRefL, O.noRef, Abs.K.noRef, r_all_noRef]) : callK P f vs [] K (some d) ts os ∨ X := by
  refine .inl ⟨hp, _, .inl (by simpa [ha] using hs), ?_⟩
  rw [if_neg (by simp [V.scalar])]
  refine ⟨ht, ?_⟩
  show regK _ _ _ _ _ _
  refine ⟨⟨⟨hf, .inl rfl⟩, trivial⟩, hk⟩
theorem callQ_s {args : List V} {r : V} (hs : Spec P f args (fun r' => r' = r)) (hk : K (insT d r.fz ts) os)
    (hp : vs.all (fun v => (lendL os v).isPure) = true := by simp [lendL, lendO, lookO, V.isPure])
    (ha : vs.map (fun v => (lendL os v).norm) = args := by simp [lendL, lendO, lookO, V.norm, encT_eq, encRule, encOrder, encChoice, encCell, norm_list, lst]) (hr : r.scalar = true := by rfl) : callQK P f vs [] K d ts os :=
  ⟨hp, r, by simpa [ha] using hs, .inl hr, hk⟩
end
end Go.Abs


set_option maxRecDepth 100000
namespace Go.Abs
theorem Qs : ((((((((type_of% @q_insT_eq_1 ∧ type_of% @q_look_eq_1) ∧ (type_of% @lookT_here ∧ type_of% @q_wpLs_eq_2)) ∧ ((type_of% @q_wpL_eq_1 ∧ type_of% @true_and) ∧ (type_of% @q_wpLs_eq_1 ∧ (type_of% @q_AE_thenL_eq_1 ∧ type_of% @lookT_next)))) ∧ (((type_of% @q_exL_eq_1 ∧ type_of% @q_awl_eq_2) ∧ (type_of% @q_putK_eq_1 ∧ type_of% @q_awl_eq_5)) ∧ ((type_of% @q_look_eq_2 ∧ type_of% @Nat.zero_add) ∧ (type_of% @q_List_map_nil ∧ (type_of% @q_List_map_cons ∧ type_of% @q_vBin_eq_1))))) ∧ ((((type_of% @q_resV_eq_1 ∧ type_of% @q_exL_eq_11) ∧ (type_of% @lookO_here ∧ type_of% @q_List_length_cons)) ∧ ((type_of% @q_List_length_nil ∧ type_of% @q_List_drop_zero) ∧ (type_of% @q_awl_eq_6 ∧ (type_of% @q_binV_eq_1 ∧ type_of% @q_binInt_eq_3)))) ∧ (((type_of% @q_condK_eq_1 ∧ type_of% @q_List_take_zero) ∧ (type_of% @q_learn_eq_1 ∧ (type_of% @q_Option_map_some ∧ type_of% @q_List_take_succ_cons))) ∧ ((type_of% @and_self ∧ type_of% @Nat.le_refl) ∧ (type_of% @q_pureRow_eq_1 ∧ (type_of% @q_pureRow_eq_2 ∧ type_of% @q_loadO_eq_1)))))) ∧ (((((type_of% @q_isV_eq_1 ∧ type_of% @q_vLoad_eq_1) ∧ (type_of% @q_exL_eq_8 ∧ type_of% @q_condB_eq_2)) ∧ ((type_of% @q_insO_eq_1 ∧ type_of% @q_mapT_eq_2) ∧ (type_of% @q_mapO_eq_1 ∧ (type_of% @q_awl_eq_10 ∧ type_of% @q_ofRow_eq_2)))) ∧ (((type_of% @q_mapT_eq_1 ∧ type_of% @q_endK_eq_2) ∧ (type_of% @q_endL_eq_1 ∧ (type_of% @q_endV_eq_1 ∧ type_of% @q_resL_eq_1))) ∧ ((type_of% @q_resL_eq_2 ∧ type_of% @q_V_nrm_eq_1) ∧ (type_of% @q_K_nrm_eq_1 ∧ (type_of% @Bool.false_eq_true ∧ type_of% @q_List_drop_succ_cons))))) ∧ ((((type_of% @q_awl_eq_1 ∧ type_of% @q_resX_eq_1) ∧ (type_of% @q_V_owns_eq_1 ∧ type_of% @q_V_toNew_eq_1)) ∧ ((type_of% @q_K_owns_eq_2 ∧ type_of% @q_K_toNew_eq_1) ∧ (type_of% @q_C_norm_eq_4 ∧ (type_of% @q_condB_eq_1 ∧ type_of% @q_C_norm_eq_5)))) ∧ (((type_of% @q_List_nil_append ∧ type_of% @lookO_next) ∧ (type_of% @q_splice_eq_1 ∧ (type_of% @q_stVarK_eq_1 ∧ type_of% @q_storeK_eq_1))) ∧ ((type_of% @q_exL_eq_3 ∧ type_of% @q_exL_eq_28) ∧ (type_of% @q_AOp_dst_eq_10 ∧ (type_of% @q_exL_eq_9 ∧ type_of% @q_cutInt_eq_8))))))) ∧ ((((((type_of% @q_vFaddr_eq_1 ∧ type_of% @q_isVarO_eq_1) ∧ (type_of% @Nat.add_zero ∧ type_of% @q_mapO_eq_2)) ∧ ((type_of% @q_AOp_dst_eq_1 ∧ type_of% @q_V_cells_eq_2) ∧ (type_of% @q_ofRow_eq_1 ∧ (type_of% @q_K_nrm_eq_3 ∧ type_of% @q_vExtr_eq_1)))) ∧ (((type_of% @q_List_getElemQ_cons_zero ∧ type_of% @q_List_getElemQ_cons_succ) ∧ (type_of% @not_false_eq_true ∧ type_of% @q_exL_eq_21)) ∧ ((type_of% @q_one_eq_2 ∧ type_of% @q_V_owns_eq_3) ∧ (type_of% @q_V_ownsL_eq_1 ∧ (type_of% @q_V_ownsL_eq_2 ∧ type_of% @q_V_toNew_eq_4))))) ∧ ((((type_of% @q_V_toNewL_eq_1 ∧ type_of% @q_V_toNewL_eq_2) ∧ (type_of% @q_O_nrm_eq_1 ∧ type_of% @q_C_norm_eq_6)) ∧ ((type_of% @q_Bool_not_false ∧ type_of% @q_exK_eq_1) ∧ (type_of% @decide_false ∧ (type_of% @q_exL_eq_27 ∧ type_of% @q_guardP_eq_2)))) ∧ (((type_of% @Bool.and_true ∧ type_of% @q_AE_thenL_eq_3) ∧ (type_of% @q_freeB_eq_1 ∧ (type_of% @q_freeT_eq_1 ∧ type_of% @q_freeT_eq_2))) ∧ ((type_of% @q_freeO_eq_1 ∧ type_of% @Bool.or_true) ∧ (type_of% @q_vPick_eq_1 ∧ (type_of% @norm_lst ∧ type_of% @q_cutInt_eq_7)))))) ∧ (((((type_of% @q_Bool_not_true ∧ type_of% @decide_true) ∧ (type_of% @q_V_nrm_eq_2 ∧ type_of% @q_C_normRow_eq_1)) ∧ ((type_of% @q_C_normRow_eq_2 ∧ type_of% @q_V_noRef_eq_2) ∧ (type_of% @q_V_noRef_eq_1 ∧ (type_of% @q_K_noRef_eq_1 ∧ type_of% @q_C_normRows_eq_1)))) ∧ (((type_of% @q_exL_eq_30 ∧ type_of% @q_awl_eq_7) ∧ (type_of% @q_freeO_eq_2 ∧ (type_of% @Bool.false_or ∧ type_of% @r_vLen_lst))) ∧ ((type_of% @q_C_norm_eq_1 ∧ type_of% @q_List_isEmpty_nil) ∧ (type_of% @q_K_noRef_eq_3 ∧ (type_of% @q_O_noRef_eq_1 ∧ type_of% @q_List_all_cons))))) ∧ ((((type_of% @q_List_all_nil ∧ type_of% @q_lookO_eq_1) ∧ (type_of% @q_vLenS_eq_1 ∧ type_of% @q_resX_eq_2)) ∧ ((type_of% @q_resCell_eq_1 ∧ type_of% @q_putDL_eq_1) ∧ (type_of% @q_cutInt_eq_10 ∧ (type_of% @q_initT_eq_1 ∧ type_of% @q_initT_eq_2)))) ∧ (((type_of% @q_exL_eq_31 ∧ type_of% @q_guardP_eq_1) ∧ (type_of% @q_regN_eq_2 ∧ (type_of% @q_freesL_eq_1 ∧ type_of% @q_addsL_eq_1))) ∧ ((type_of% @q_regK_eq_1 ∧ type_of% @q_retK_eq_2) ∧ (type_of% @Bool.true_and ∧ (type_of% @q_V_reg_eq_4 ∧ type_of% @q_V_reg_eq_3)))))))) ∧ (((((((type_of% @q_V_regL_eq_1 ∧ type_of% @q_V_regL_eq_2) ∧ (type_of% @q_exL_eq_4 ∧ type_of% @q_V_owns_eq_4)) ∧ ((type_of% @q_V_toNew_eq_2 ∧ type_of% @q_cutInt_eq_1) ∧ (type_of% @q_one_eq_1 ∧ (type_of% @q_AOp_dst_eq_8 ∧ type_of% @q_cutInt_eq_6)))) ∧ (((type_of% @q_AE_inBlockL_eq_1 ∧ type_of% @Int.toNat_natCast) ∧ (type_of% @q_wpLQ_eq_1 ∧ type_of% @q_exL_eq_15)) ∧ ((type_of% @q_vUn_eq_1 ∧ type_of% @q_mapC_eq_1) ∧ (type_of% @Bool.and_eq_true ∧ (type_of% @q_AOp_dst_eq_28 ∧ type_of% @Int.natCast_nonneg))))) ∧ ((((type_of% @q_vBuild_eq_1 ∧ type_of% @q_rowV_eq_1) ∧ (type_of% @q_awl_eq_9 ∧ type_of% @q_AE_thenL_eq_2)) ∧ ((type_of% @q_AE_inBlockL_eq_2 ∧ type_of% @q_vPick_eq_2) ∧ (type_of% @q_exL_eq_6 ∧ (type_of% @q_unV_eq_2 ∧ type_of% @q_V_nrm_eq_5)))) ∧ (((type_of% @q_AOp_dst_eq_20 ∧ type_of% @q_AOp_dst_eq_27) ∧ (type_of% @q_cutInt_eq_11 ∧ (type_of% @q_binV_eq_2 ∧ type_of% @q_V_nrm_eq_4))) ∧ ((type_of% @q_V_nrmL_eq_1 ∧ type_of% @q_V_nrmL_eq_2) ∧ (type_of% @q_V_noRef_eq_4 ∧ (type_of% @q_V_noRefL_eq_1 ∧ type_of% @q_V_noRefL_eq_2)))))) ∧ (((((type_of% @q_exL_eq_5 ∧ type_of% @q_boxK_eq_1) ∧ (type_of% @q_AOp_dst_eq_3 ∧ type_of% @q_exLQ_eq_1)) ∧ ((type_of% @q_vLoad_eq_2 ∧ type_of% @false_implies) ∧ (type_of% @q_List_cons_append ∧ (type_of% @r_vIaddr_lst ∧ type_of% @Int.cast_ofNat_Int)))) ∧ (((type_of% @q_vPick_eq_3 ∧ type_of% @q_O_nrm_eq_2) ∧ (type_of% @q_vBound_eq_2 ∧ (type_of% @q_wpLQs_eq_2 ∧ type_of% @q_exLQ_eq_9))) ∧ ((type_of% @q_exL_eq_23 ∧ type_of% @q_List_getD_cons_zero) ∧ (type_of% @q_cutS_eq_1 ∧ (type_of% @q_vSlstr_eq_1 ∧ type_of% @q_exLQ_eq_29))))) ∧ ((((type_of% @q_K_noRef_eq_2 ∧ type_of% @q_O_noRef_eq_2) ∧ (type_of% @q_wpLT_eq_4 ∧ type_of% @q_partV_eq_2)) ∧ ((type_of% @q_K_noRef_eq_5 ∧ type_of% @q_AE_inBlockL_eq_3) ∧ (type_of% @q_binStr_eq_1 ∧ (type_of% @q_isArrO_eq_1 ∧ type_of% @q_K_owns_eq_1)))) ∧ (((type_of% @q_K_toNew_eq_2 ∧ type_of% @q_V_cells_eq_1) ∧ (type_of% @and_true ∧ (type_of% @q_AOp_dst_eq_24 ∧ type_of% @condB_beq))) ∧ ((type_of% @q_exLQ_eq_22 ∧ type_of% @q_cutInt_eq_2) ∧ (type_of% @q_pureRow_eq_3 ∧ (type_of% @q_AOp_dst_eq_14 ∧ type_of% @q_awl_eq_11))))))) ∧ ((((((type_of% @q_keepT_eq_1 ∧ type_of% @q_keepT_eq_2) ∧ (type_of% @q_keepO_eq_1 ∧ type_of% @q_keepO_eq_2)) ∧ ((type_of% @q_addO_eq_1 ∧ type_of% @q_addO_eq_2) ∧ (type_of% @q_wpLQs_eq_1 ∧ (type_of% @q_Option_map_none ∧ type_of% @Int.toNat_zero)))) ∧ (((type_of% @q_awl_eq_3 ∧ type_of% @q_binStr_eq_3) ∧ (type_of% @q_vBound_eq_1 ∧ type_of% @q_cutInt_eq_3)) ∧ ((type_of% @q_List_foldl_nil ∧ type_of% @q_exLQ_eq_12) ∧ (type_of% @q_K_nrm_eq_2 ∧ (type_of% @q_List_replicate_succ ∧ type_of% @q_List_replicate_zero))))) ∧ ((((type_of% @q_exL_eq_25 ∧ type_of% @q_vSidx_eq_1) ∧ (type_of% @condB_bne ∧ type_of% @q_exL_eq_20)) ∧ ((type_of% @q_V_cells_eq_3 ∧ type_of% @q_exLQ_eq_10) ∧ (type_of% @q_V_fz_eq_1 ∧ (type_of% @q_K_fz_eq_2 ∧ type_of% @q_List_foldl_cons)))) ∧ (((type_of% @q_vLits_eq_1 ∧ type_of% @condB_decide) ∧ (type_of% @not_true_eq_false ∧ (type_of% @q_guardP_eq_3 ∧ type_of% @q_V_nrm_eq_3))) ∧ ((type_of% @q_V_owns_eq_2 ∧ type_of% @q_V_toNew_eq_3) ∧ (type_of% @q_List_flatMap_cons ∧ (type_of% @q_List_flatMap_nil ∧ type_of% @or_false)))))) ∧ (((((type_of% @q_vRow_eq_1 ∧ type_of% @q_exL_eq_2) ∧ (type_of% @q_vLits_eq_2 ∧ type_of% @q_List_set_cons_zero)) ∧ ((type_of% @q_awl_eq_4 ∧ type_of% @q_AOp_dst_eq_32) ∧ (type_of% @condB_not ∧ (type_of% @q_partV_eq_1 ∧ type_of% @q_nlApp_eq_2)))) ∧ (((type_of% @q_delO_eq_1 ∧ type_of% @q_delO_eq_2) ∧ (type_of% @q_cutInt_eq_9 ∧ (type_of% @q_exL_eq_7 ∧ type_of% @q_bsK_eq_1))) ∧ ((type_of% @q_exLQ_eq_21 ∧ type_of% @q_exLQ_eq_24) ∧ (type_of% @q_vBuild_eq_2 ∧ (type_of% @q_appK_eq_1 ∧ type_of% @q_appendK_eq_1))))) ∧ ((((type_of% @q_V_scrub_eq_1 ∧ type_of% @q_K_scrub_eq_1) ∧ (type_of% @q_K_scrub_eq_5 ∧ type_of% @q_wpLT_eq_1)) ∧ ((type_of% @q_wpLT_eq_3 ∧ type_of% @q_wpLT_eq_5) ∧ (type_of% @q_exLQ_eq_28 ∧ (type_of% @q_V_fz_eq_2 ∧ type_of% @q_V_fz_eq_4)))) ∧ (((type_of% @q_V_fzL_eq_1 ∧ type_of% @q_V_fzL_eq_2) ∧ (type_of% @q_cutInt_eq_4 ∧ (type_of% @q_cutInt_eq_5 ∧ type_of% @q_exLQ_eq_34))) ∧ ((type_of% @q_K_scrub_eq_2 ∧ type_of% @q_O_scrub_eq_1) ∧ (type_of% @q_O_scrub_eq_2 ∧ (type_of% @q_exL_eq_16 ∧ type_of% @q_vConv_eq_1))))))))) := ⟨⟨⟨⟨⟨⟨⟨⟨@q_insT_eq_1, @q_look_eq_1⟩, ⟨@lookT_here, @q_wpLs_eq_2⟩⟩, ⟨⟨@q_wpL_eq_1, @true_and⟩, ⟨@q_wpLs_eq_1, ⟨@q_AE_thenL_eq_1, @lookT_next⟩⟩⟩⟩, ⟨⟨⟨@q_exL_eq_1, @q_awl_eq_2⟩, ⟨@q_putK_eq_1, @q_awl_eq_5⟩⟩, ⟨⟨@q_look_eq_2, @Nat.zero_add⟩, ⟨@q_List_map_nil, ⟨@q_List_map_cons, @q_vBin_eq_1⟩⟩⟩⟩⟩, ⟨⟨⟨⟨@q_resV_eq_1, @q_exL_eq_11⟩, ⟨@lookO_here, @q_List_length_cons⟩⟩, ⟨⟨@q_List_length_nil, @q_List_drop_zero⟩, ⟨@q_awl_eq_6, ⟨@q_binV_eq_1, @q_binInt_eq_3⟩⟩⟩⟩, ⟨⟨⟨@q_condK_eq_1, @q_List_take_zero⟩, ⟨@q_learn_eq_1, ⟨@q_Option_map_some, @q_List_take_succ_cons⟩⟩⟩, ⟨⟨@and_self, @Nat.le_refl⟩, ⟨@q_pureRow_eq_1, ⟨@q_pureRow_eq_2, @q_loadO_eq_1⟩⟩⟩⟩⟩⟩, ⟨⟨⟨⟨⟨@q_isV_eq_1, @q_vLoad_eq_1⟩, ⟨@q_exL_eq_8, @q_condB_eq_2⟩⟩, ⟨⟨@q_insO_eq_1, @q_mapT_eq_2⟩, ⟨@q_mapO_eq_1, ⟨@q_awl_eq_10, @q_ofRow_eq_2⟩⟩⟩⟩, ⟨⟨⟨@q_mapT_eq_1, @q_endK_eq_2⟩, ⟨@q_endL_eq_1, ⟨@q_endV_eq_1, @q_resL_eq_1⟩⟩⟩, ⟨⟨@q_resL_eq_2, @q_V_nrm_eq_1⟩, ⟨@q_K_nrm_eq_1, ⟨@Bool.false_eq_true, @q_List_drop_succ_cons⟩⟩⟩⟩⟩, ⟨⟨⟨⟨@q_awl_eq_1, @q_resX_eq_1⟩, ⟨@q_V_owns_eq_1, @q_V_toNew_eq_1⟩⟩, ⟨⟨@q_K_owns_eq_2, @q_K_toNew_eq_1⟩, ⟨@q_C_norm_eq_4, ⟨@q_condB_eq_1, @q_C_norm_eq_5⟩⟩⟩⟩, ⟨⟨⟨@q_List_nil_append, @lookO_next⟩, ⟨@q_splice_eq_1, ⟨@q_stVarK_eq_1, @q_storeK_eq_1⟩⟩⟩, ⟨⟨@q_exL_eq_3, @q_exL_eq_28⟩, ⟨@q_AOp_dst_eq_10, ⟨@q_exL_eq_9, @q_cutInt_eq_8⟩⟩⟩⟩⟩⟩⟩, ⟨⟨⟨⟨⟨⟨@q_vFaddr_eq_1, @q_isVarO_eq_1⟩, ⟨@Nat.add_zero, @q_mapO_eq_2⟩⟩, ⟨⟨@q_AOp_dst_eq_1, @q_V_cells_eq_2⟩, ⟨@q_ofRow_eq_1, ⟨@q_K_nrm_eq_3, @q_vExtr_eq_1⟩⟩⟩⟩, ⟨⟨⟨@q_List_getElemQ_cons_zero, @q_List_getElemQ_cons_succ⟩, ⟨@not_false_eq_true, @q_exL_eq_21⟩⟩, ⟨⟨@q_one_eq_2, @q_V_owns_eq_3⟩, ⟨@q_V_ownsL_eq_1, ⟨@q_V_ownsL_eq_2, @q_V_toNew_eq_4⟩⟩⟩⟩⟩, ⟨⟨⟨⟨@q_V_toNewL_eq_1, @q_V_toNewL_eq_2⟩, ⟨@q_O_nrm_eq_1, @q_C_norm_eq_6⟩⟩, ⟨⟨@q_Bool_not_false, @q_exK_eq_1⟩, ⟨@decide_false, ⟨@q_exL_eq_27, @q_guardP_eq_2⟩⟩⟩⟩, ⟨⟨⟨@Bool.and_true, @q_AE_thenL_eq_3⟩, ⟨@q_freeB_eq_1, ⟨@q_freeT_eq_1, @q_freeT_eq_2⟩⟩⟩, ⟨⟨@q_freeO_eq_1, @Bool.or_true⟩, ⟨@q_vPick_eq_1, ⟨@norm_lst, @q_cutInt_eq_7⟩⟩⟩⟩⟩⟩, ⟨⟨⟨⟨⟨@q_Bool_not_true, @decide_true⟩, ⟨@q_V_nrm_eq_2, @q_C_normRow_eq_1⟩⟩, ⟨⟨@q_C_normRow_eq_2, @q_V_noRef_eq_2⟩, ⟨@q_V_noRef_eq_1, ⟨@q_K_noRef_eq_1, @q_C_normRows_eq_1⟩⟩⟩⟩, ⟨⟨⟨@q_exL_eq_30, @q_awl_eq_7⟩, ⟨@q_freeO_eq_2, ⟨@Bool.false_or, @r_vLen_lst⟩⟩⟩, ⟨⟨@q_C_norm_eq_1, @q_List_isEmpty_nil⟩, ⟨@q_K_noRef_eq_3, ⟨@q_O_noRef_eq_1, @q_List_all_cons⟩⟩⟩⟩⟩, ⟨⟨⟨⟨@q_List_all_nil, @q_lookO_eq_1⟩, ⟨@q_vLenS_eq_1, @q_resX_eq_2⟩⟩, ⟨⟨@q_resCell_eq_1, @q_putDL_eq_1⟩, ⟨@q_cutInt_eq_10, ⟨@q_initT_eq_1, @q_initT_eq_2⟩⟩⟩⟩, ⟨⟨⟨@q_exL_eq_31, @q_guardP_eq_1⟩, ⟨@q_regN_eq_2, ⟨@q_freesL_eq_1, @q_addsL_eq_1⟩⟩⟩, ⟨⟨@q_regK_eq_1, @q_retK_eq_2⟩, ⟨@Bool.true_and, ⟨@q_V_reg_eq_4, @q_V_reg_eq_3⟩⟩⟩⟩⟩⟩⟩⟩, ⟨⟨⟨⟨⟨⟨⟨@q_V_regL_eq_1, @q_V_regL_eq_2⟩, ⟨@q_exL_eq_4, @q_V_owns_eq_4⟩⟩, ⟨⟨@q_V_toNew_eq_2, @q_cutInt_eq_1⟩, ⟨@q_one_eq_1, ⟨@q_AOp_dst_eq_8, @q_cutInt_eq_6⟩⟩⟩⟩, ⟨⟨⟨@q_AE_inBlockL_eq_1, @Int.toNat_natCast⟩, ⟨@q_wpLQ_eq_1, @q_exL_eq_15⟩⟩, ⟨⟨@q_vUn_eq_1, @q_mapC_eq_1⟩, ⟨@Bool.and_eq_true, ⟨@q_AOp_dst_eq_28, @Int.natCast_nonneg⟩⟩⟩⟩⟩, ⟨⟨⟨⟨@q_vBuild_eq_1, @q_rowV_eq_1⟩, ⟨@q_awl_eq_9, @q_AE_thenL_eq_2⟩⟩, ⟨⟨@q_AE_inBlockL_eq_2, @q_vPick_eq_2⟩, ⟨@q_exL_eq_6, ⟨@q_unV_eq_2, @q_V_nrm_eq_5⟩⟩⟩⟩, ⟨⟨⟨@q_AOp_dst_eq_20, @q_AOp_dst_eq_27⟩, ⟨@q_cutInt_eq_11, ⟨@q_binV_eq_2, @q_V_nrm_eq_4⟩⟩⟩, ⟨⟨@q_V_nrmL_eq_1, @q_V_nrmL_eq_2⟩, ⟨@q_V_noRef_eq_4, ⟨@q_V_noRefL_eq_1, @q_V_noRefL_eq_2⟩⟩⟩⟩⟩⟩, ⟨⟨⟨⟨⟨@q_exL_eq_5, @q_boxK_eq_1⟩, ⟨@q_AOp_dst_eq_3, @q_exLQ_eq_1⟩⟩, ⟨⟨@q_vLoad_eq_2, @false_implies⟩, ⟨@q_List_cons_append, ⟨@r_vIaddr_lst, @Int.cast_ofNat_Int⟩⟩⟩⟩, ⟨⟨⟨@q_vPick_eq_3, @q_O_nrm_eq_2⟩, ⟨@q_vBound_eq_2, ⟨@q_wpLQs_eq_2, @q_exLQ_eq_9⟩⟩⟩, ⟨⟨@q_exL_eq_23, @q_List_getD_cons_zero⟩, ⟨@q_cutS_eq_1, ⟨@q_vSlstr_eq_1, @q_exLQ_eq_29⟩⟩⟩⟩⟩, ⟨⟨⟨⟨@q_K_noRef_eq_2, @q_O_noRef_eq_2⟩, ⟨@q_wpLT_eq_4, @q_partV_eq_2⟩⟩, ⟨⟨@q_K_noRef_eq_5, @q_AE_inBlockL_eq_3⟩, ⟨@q_binStr_eq_1, ⟨@q_isArrO_eq_1, @q_K_owns_eq_1⟩⟩⟩⟩, ⟨⟨⟨@q_K_toNew_eq_2, @q_V_cells_eq_1⟩, ⟨@and_true, ⟨@q_AOp_dst_eq_24, @condB_beq⟩⟩⟩, ⟨⟨@q_exLQ_eq_22, @q_cutInt_eq_2⟩, ⟨@q_pureRow_eq_3, ⟨@q_AOp_dst_eq_14, @q_awl_eq_11⟩⟩⟩⟩⟩⟩⟩, ⟨⟨⟨⟨⟨⟨@q_keepT_eq_1, @q_keepT_eq_2⟩, ⟨@q_keepO_eq_1, @q_keepO_eq_2⟩⟩, ⟨⟨@q_addO_eq_1, @q_addO_eq_2⟩, ⟨@q_wpLQs_eq_1, ⟨@q_Option_map_none, @Int.toNat_zero⟩⟩⟩⟩, ⟨⟨⟨@q_awl_eq_3, @q_binStr_eq_3⟩, ⟨@q_vBound_eq_1, @q_cutInt_eq_3⟩⟩, ⟨⟨@q_List_foldl_nil, @q_exLQ_eq_12⟩, ⟨@q_K_nrm_eq_2, ⟨@q_List_replicate_succ, @q_List_replicate_zero⟩⟩⟩⟩⟩, ⟨⟨⟨⟨@q_exL_eq_25, @q_vSidx_eq_1⟩, ⟨@condB_bne, @q_exL_eq_20⟩⟩, ⟨⟨@q_V_cells_eq_3, @q_exLQ_eq_10⟩, ⟨@q_V_fz_eq_1, ⟨@q_K_fz_eq_2, @q_List_foldl_cons⟩⟩⟩⟩, ⟨⟨⟨@q_vLits_eq_1, @condB_decide⟩, ⟨@not_true_eq_false, ⟨@q_guardP_eq_3, @q_V_nrm_eq_3⟩⟩⟩, ⟨⟨@q_V_owns_eq_2, @q_V_toNew_eq_3⟩, ⟨@q_List_flatMap_cons, ⟨@q_List_flatMap_nil, @or_false⟩⟩⟩⟩⟩⟩, ⟨⟨⟨⟨⟨@q_vRow_eq_1, @q_exL_eq_2⟩, ⟨@q_vLits_eq_2, @q_List_set_cons_zero⟩⟩, ⟨⟨@q_awl_eq_4, @q_AOp_dst_eq_32⟩, ⟨@condB_not, ⟨@q_partV_eq_1, @q_nlApp_eq_2⟩⟩⟩⟩, ⟨⟨⟨@q_delO_eq_1, @q_delO_eq_2⟩, ⟨@q_cutInt_eq_9, ⟨@q_exL_eq_7, @q_bsK_eq_1⟩⟩⟩, ⟨⟨@q_exLQ_eq_21, @q_exLQ_eq_24⟩, ⟨@q_vBuild_eq_2, ⟨@q_appK_eq_1, @q_appendK_eq_1⟩⟩⟩⟩⟩, ⟨⟨⟨⟨@q_V_scrub_eq_1, @q_K_scrub_eq_1⟩, ⟨@q_K_scrub_eq_5, @q_wpLT_eq_1⟩⟩, ⟨⟨@q_wpLT_eq_3, @q_wpLT_eq_5⟩, ⟨@q_exLQ_eq_28, ⟨@q_V_fz_eq_2, @q_V_fz_eq_4⟩⟩⟩⟩, ⟨⟨⟨@q_V_fzL_eq_1, @q_V_fzL_eq_2⟩, ⟨@q_cutInt_eq_4, ⟨@q_cutInt_eq_5, @q_exLQ_eq_34⟩⟩⟩, ⟨⟨@q_K_scrub_eq_2, @q_O_scrub_eq_1⟩, ⟨@q_O_scrub_eq_2, ⟨@q_exL_eq_16, @q_vConv_eq_1⟩⟩⟩⟩⟩⟩⟩⟩⟩
end Go.Abs


namespace Go.Abs
section
variable {P : Program}
theorem shape_int {n : Nat} {t : TypeId} {r : List C} {k : IntKind} (hu : P.underlying t = some (.int k)) (h : Shape P n t r) : ∃ m : Int, r = [.int k m] ∧ (Lit.int k m).wf = true := by
  cases n with
  | zero => exact h.elim
  | succ n => simp only [Shape, hu] at h; exact h
theorem shape_bool {n : Nat} {t : TypeId} {r : List C} (hu : P.underlying t = some .bool) (h : Shape P n t r) : ∃ b : Bool, r = [.bool b] := by
  cases n with
  | zero => exact h.elim
  | succ n => simp only [Shape, hu] at h; exact h
theorem shape_str {n : Nat} {t : TypeId} {r : List C} (hu : P.underlying t = some .string) (h : Shape P n t r) : ∃ s : List UInt8, r = [.str s] ∧ s.length ≤ 9223372036854775807 := by
  cases n with
  | zero => exact h.elim
  | succ n => simp only [Shape, hu] at h; exact h
theorem shape_slice {n : Nat} {t e : TypeId} {r : List C} (hu : P.underlying t = some (.slice e)) (h : Shape P n t r) : ∃ m rows, n = m + 1 ∧ r = [lstC (P.cellsOf e) rows] ∧ rows.length ≤ 9223372036854775807 ∧ ∀ x ∈ rows, Shape P m e x := by
  cases n with
  | zero => exact h.elim
  | succ n => simp only [Shape, hu] at h; obtain ⟨rows, h1, h2, h3⟩ := h; exact ⟨n, rows, rfl, h1, h2, h3⟩
theorem shape_struct {n : Nat} {t : TypeId} {fs : Array Field} {r : List C} (hu : P.underlying t = some (.struct fs)) (h : Shape P n t r) : ∃ m rs, n = m + 1 ∧ r = rs.flatten ∧ ShapeL (Shape P m) (fs.toList.map (·.type)) rs := by
  cases n with
  | zero => exact h.elim
  | succ n => simp only [Shape, hu] at h; obtain ⟨rs, h1, h2⟩ := h; exact ⟨n, rs, rfl, h1, h2⟩
theorem shapeL3 {S : TypeId → List C → Prop} {a b c : TypeId} {rs : List (List C)} (h : ShapeL S [a, b, c] rs) : ∃ x y z, rs = [x, y, z] ∧ S a x ∧ S b y ∧ S c z := by
  match rs, h with
  | [x, y, z], h => exact ⟨x, y, z, rfl, h.1, h.2.1, h.2.2.1⟩
theorem rows_of {α : Type} {S : List C → Prop} (enc : α → List C) (hS : ∀ r, S r → ∃ a, r = enc a) : ∀ (rows : List (List C)), (∀ r ∈ rows, S r) → ∃ l : List α, rows = l.map enc
  | [], _ => ⟨[], rfl⟩
  | r :: rows, h => by
    obtain ⟨a, ha⟩ := hS r (h r (by simp))
    obtain ⟨l, hl⟩ := rows_of enc hS rows (fun x hx => h x (by simp [hx]))
    exact ⟨a :: l, by rw [ha, hl]; rfl⟩
variable {tI tB tS tT tLT tR tLR tC tLC tO : TypeId}
end
end Go.Abs


namespace Go.Abs
section
variable {P : Program}
end
end Go.Abs


set_option maxRecDepth 10000
namespace Go.Wire
open Go.Lib
abbrev Txt := List UInt8
theorem dg_toNat {d : Nat} (h : d < 10) : (UInt8.ofNat (48 + d)).toNat = 48 + d := by
  rw [UInt8.toNat_ofNat']; omega
theorem dec_small {u : Nat} (h : u < 10) : decDigits u = [UInt8.ofNat (48 + u)] := by rw [decDigits, dif_pos h]
theorem dec_big {u : Nat} (h : ¬ u < 10) : decDigits u = decDigits (u / 10) ++ [UInt8.ofNat (48 + u % 10)] := by rw [decDigits, dif_neg h]
theorem dec_dig (u : Nat) : ∀ c, c ∈ decDigits u → 48 ≤ c.toNat ∧ c.toNat ≤ 57 := by
  induction u using Nat.strongRecOn with
  | _ u ih =>
    intro c hc
    by_cases h : u < 10
    · rw [dec_small h, List.mem_singleton] at hc
      subst hc
      rw [dg_toNat h]; omega
    · rw [dec_big h, List.mem_append, List.mem_singleton] at hc
      rcases hc with hc | rfl
      · exact ih (u / 10) (by omega) c hc
      · rw [dg_toNat (by omega)]; omega
theorem dec_ne (u : Nat) : decDigits u ≠ [] := by
  by_cases h : u < 10
  · rw [dec_small h]; simp
  · rw [dec_big h]; simp
theorem dec_len : ∀ (k u : Nat), u < 10 ^ (k + 1) → (decDigits u).length ≤ k + 1
  | 0, u, h => by rw [dec_small (by simpa using h)]; simp
  | k + 1, u, h => by
    by_cases h10 : u < 10
    · rw [dec_small h10]; simp
    · rw [dec_big h10, List.length_append]
      have := dec_len k (u / 10) (by rw [Nat.pow_succ] at h; omega)
      simp only [List.length_singleton]; omega
theorem dec_head (u : Nat) (h : 0 < u) : ∃ c r, decDigits u = c :: r ∧ c.toNat ≠ 48 := by
  induction u using Nat.strongRecOn with
  | _ u ih =>
    by_cases h10 : u < 10
    · exact ⟨_, [], dec_small h10, by rw [dg_toNat h10]; omega⟩
    · obtain ⟨c, r, e, hc⟩ := ih (u / 10) (by omega) (by omega)
      exact ⟨c, r ++ _, by rw [dec_big h10, e]; rfl, hc⟩
theorem parse_append : ∀ (l1 l2 : Txt) (acc u : Nat), parseUint10 acc l1 = .ok u → parseUint10 acc (l1 ++ l2) = parseUint10 u l2
  | [], l2, acc, u, h => by
    simp only [parseUint10] at h
    injection h with h
    rw [h]; rfl
  | c :: r, l2, acc, u, h => by
    simp only [parseUint10] at h
    simp only [List.cons_append, parseUint10]
    split at h
    · rename_i h1
      rw [if_pos h1]
      split at h
      · cases h
      · rename_i h2
        rw [if_neg h2]
        split at h
        · cases h
        · rename_i h3
          rw [if_neg h3]
          exact parse_append r l2 _ u h
    · cases h
theorem parse_one {acc d : Nat} (hd : d < 10) (h : acc * 10 + d < 18446744073709551616) : parseUint10 acc [UInt8.ofNat (48 + d)] = .ok (acc * 10 + d) := by
  simp only [parseUint10, dg_toNat hd]
  rw [if_pos (by omega), if_neg (by omega), if_neg (by omega)]
  congr 1; omega
theorem parse_dec (u : Nat) (hu : u < 18446744073709551616) : parseUint10 0 (decDigits u) = .ok u := by
  induction u using Nat.strongRecOn with
  | _ u ih =>
    by_cases h : u < 10
    · rw [dec_small h, parse_one h (by omega)]; congr 1; omega
    · rw [dec_big h, parse_append _ _ 0 (u / 10) (ih (u / 10) (by omega) (by omega)), parse_one (by omega) (by omega)]
      congr 1; omega
def inI (n : Int) : Prop := -9223372036854775808 ≤ n ∧ n ≤ 9223372036854775807
theorem mag_dec (u : Nat) (hu : u < 18446744073709551616) : parseMag (decDigits u) = .ok u := by
  rw [parseMag, if_neg (dec_ne u), parse_dec u hu]
theorem atoi_itoa {n : Int} (h : inI n) : atoiAll (itoa n) = .ok n := by
  unfold itoa
  by_cases hn : n < 0
  · rw [if_pos hn]
    have h1 := mag_dec n.natAbs (by have := h.1; omega)
    have e45 : (45 : UInt8).toNat = 45 := rfl
    have h2 := h.1
    simp only [atoiAll, e45, true_or, or_true, if_true, h1]
    rw [if_neg (by simp), if_neg (by omega)]
    congr 1; omega
  · rw [if_neg hn]
    have h1 := mag_dec n.toNat (by have := h.2; omega)
    have hd := dec_dig n.toNat
    have h2 := h.2
    cases hl : decDigits n.toNat with
    | nil => exact absurd hl (dec_ne _)
    | cons c r =>
      rw [hl] at h1 hd
      have hc := hd c (by simp)
      have e1 : ¬ c.toNat = 43 := by omega
      have e2 : ¬ c.toNat = 45 := by omega
      simp only [atoiAll, e1, e2, or_self, if_false, h1, not_false_eq_true, true_and, false_and]
      rw [if_neg (by omega)]
      congr 1; omega
theorem atoi_in {l : Txt} {n : Int} (h : atoiAll l = .ok n) : inI n := by
  unfold atoiAll at h
  split at h
  · cases h
  · simp only [] at h
    split at h
    · cases h
    · cases h
    · rename_i u _
      split at h
      · cases h
      · rename_i a1
        split at h
        · cases h
        · rename_i a2
          injection h with h
          subst h
          unfold inI
          split
          · rename_i a3
            simp only [a3, true_and] at a2
            omega
          · rename_i a3
            simp only [a3, not_false_eq_true, true_and] at a1
            omega
theorem itoa_semi (n : Int) : ∀ c, c ∈ itoa n → c ≠ 59 := by
  intro c hc
  have : c.toNat = 45 ∨ 48 ≤ c.toNat ∧ c.toNat ≤ 57 := by
    unfold itoa at hc
    split at hc
    · rcases List.mem_cons.1 hc with rfl | hc
      · exact .inl rfl
      · exact .inr (dec_dig _ c hc)
    · exact .inr (dec_dig _ c hc)
  intro e
  subst e
  have e59 : (59 : UInt8).toNat = 59 := rfl
  omega
theorem itoa_len {n : Int} (h : inI n) : 1 ≤ (itoa n).length ∧ (itoa n).length ≤ 20 := by
  obtain ⟨h1, h2⟩ := h
  unfold itoa
  split
  · have := dec_len 18 n.natAbs (by omega)
    simp only [List.length_cons]; omega
  · have := dec_len 18 n.toNat (by omega)
    have h3 := List.length_pos_iff.2 (dec_ne n.toNat)
    omega
def wI (n : Int) : Txt := itoa n ++ [59]
def rI (s : Txt) : Option (Int × Txt) :=
  if (59 : UInt8) ∈ s.take 21 then
    match atoiAll ((s.take 21).takeWhile fun c => decide (c ≠ 59)) with
    | .ok n => if itoa n = (s.take 21).takeWhile (fun c => decide (c ≠ 59)) then some (n, s.drop ((itoa n).length + 1)) else none
    | _ => none
  else none
theorem cut_at {t : Txt} (h : (59 : UInt8) ∈ t) : ∃ r, t = t.takeWhile (fun c => decide (c ≠ 59)) ++ 59 :: r := by
  induction t with
  | nil => cases h
  | cons c t ih =>
    by_cases hc : c = 59
    · subst hc; exact ⟨t, by simp⟩
    · obtain ⟨r, hr⟩ := ih ((List.mem_cons.1 h).resolve_left (fun e => hc e.symm))
      refine ⟨r, ?_⟩
      rw [List.takeWhile_cons_of_pos (by simpa using hc), List.cons_append, ← hr]
theorem while_app {l r : Txt} (h : ∀ c, c ∈ l → c ≠ 59) : (l ++ 59 :: r).takeWhile (fun c => decide (c ≠ 59)) = l := by
  induction l with
  | nil => simp
  | cons c l ih =>
    rw [List.cons_append, List.takeWhile_cons_of_pos (by simpa using h c (by simp)), ih (fun x hx => h x (by simp [hx]))]
theorem rI_write {n : Int} (h : inI n) (r : Txt) : rI (wI n ++ r) = some (n, r) := by
  have hl := itoa_len h
  have e : (wI n ++ r).take 21 = itoa n ++ 59 :: (r.take (20 - (itoa n).length)) := by
    rw [wI, List.append_assoc, List.singleton_append, List.take_append, List.take_of_length_le (by omega)]
    congr 1
    obtain ⟨k, hk⟩ : ∃ k, 21 - (itoa n).length = k + 1 := ⟨20 - (itoa n).length, by omega⟩
    rw [hk, List.take_succ_cons]
    congr 2; omega
  have hw : ((wI n ++ r).take 21).takeWhile (fun c => decide (c ≠ 59)) = itoa n := by rw [e]; exact while_app (itoa_semi n)
  unfold rI
  rw [hw, if_pos (by rw [e]; simp), atoi_itoa h]
  simp only [if_true]
  congr 2
  rw [wI, List.append_assoc, List.drop_append]
  simp
theorem rI_some {s r : Txt} {n : Int} (h : rI s = some (n, r)) : inI n ∧ s = wI n ++ r := by
  unfold rI at h
  split at h
  · rename_i hm
    split at h
    · rename_i m hat
      split at h
      · rename_i hit
        cases h
        refine ⟨atoi_in hat, ?_⟩
        obtain ⟨q, hq⟩ := cut_at hm
        rw [← hit] at hq
        have e : s = itoa n ++ 59 :: (q ++ s.drop 21) := by
          rw [← List.cons_append, ← List.append_assoc, ← hq, List.take_append_drop]
        conv => rhs; rw [e]
        rw [wI, List.append_assoc, List.drop_append]
        conv => lhs; rw [e]
        simp
      · cases h
    · cases h
  · cases h
theorem rI_iff {s r : Txt} {n : Int} : rI s = some (n, r) ↔ inI n ∧ s = wI n ++ r :=
  ⟨rI_some, fun h => by rw [h.2]; exact rI_write h.1 r⟩
end Go.Wire


set_option maxRecDepth 10000
namespace Go.Wire
open Go.Lib
def Reads {α : Type} (w : α → Txt) (R : Txt → Option (α × Txt)) (ok : α → Prop) : Prop := ∀ s x r, R s = some (x, r) ↔ ok x ∧ s = w x ++ r
section
variable {α : Type} {w : α → Txt} {R : Txt → Option (α × Txt)} {ok : α → Prop}
theorem Reads.back (h : Reads w R ok) {x : α} (hx : ok x) (r : Txt) : R (w x ++ r) = some (x, r) := (h _ _ _).2 ⟨hx, rfl⟩
theorem Reads.uniq (h : Reads w R ok) {x y : α} {r q : Txt} (hx : ok x) (hy : ok y) (e : w x ++ r = w y ++ q) : x = y ∧ r = q := by
  have h1 := h.back hx r
  rw [e, h.back hy q] at h1
  cases h1
  exact ⟨rfl, rfl⟩
theorem Reads.inj (h : Reads w R ok) {x y : α} (hx : ok x) (hy : ok y) (e : w x = w y) : x = y := (h.uniq (r := []) (q := []) hx hy (by rw [e])).1
theorem Reads.cut (h : Reads w R ok) {x : α} (hx : ok x) {k : Nat} (hk : k < (w x).length) : R ((w x).take k) = none := by
  cases hr : R ((w x).take k) with
  | none => rfl
  | some p =>
    obtain ⟨y, r⟩ := p
    obtain ⟨hy, e⟩ := (h _ _ _).1 hr
    have e2 : w x ++ [] = w y ++ (r ++ (w x).drop k) := by
      rw [List.append_nil, ← List.append_assoc, ← e, List.take_append_drop]
    have h2 := (h.uniq hx hy e2).2
    have h3 : ((w x).drop k).length = 0 := by
      have := congrArg List.length h2
      simp only [List.length_nil, List.length_append] at this
      omega
    rw [List.length_drop] at h3
    omega
end
def wS (s : Txt) : Txt := wI s.length ++ s
def rS (s : Txt) : Option (Txt × Txt) := (rI s).bind fun p => if p.1 < 0 ∨ p.1 > p.2.length then none else some (p.2.take p.1.toNat, p.2.drop p.1.toNat)
def okS (s : Txt) : Prop := s.length ≤ 9223372036854775807
theorem reads_S : Reads wS rS okS := by
  intro s x r
  constructor
  · intro h
    unfold rS at h
    cases hr : rI s with
    | none => rw [hr] at h; cases h
    | some p =>
      obtain ⟨n, q⟩ := p
      rw [hr] at h
      simp only [Option.bind_some] at h
      split at h
      · cases h
      · rename_i hc
        cases h
        obtain ⟨⟨h1, h2⟩, e⟩ := rI_some hr
        have hl : (q.take n.toNat).length = n.toNat := by rw [List.length_take]; omega
        have hn : ((q.take n.toNat).length : Int) = n := by rw [hl]; omega
        refine ⟨by unfold okS; omega, ?_⟩
        rw [wS, hn, List.append_assoc, List.take_append_drop]
        exact e
  · rintro ⟨h1, rfl⟩
    unfold okS at h1
    unfold rS
    have e : wS x ++ r = wI x.length ++ (x ++ r) := by rw [wS, List.append_assoc]
    rw [e, rI_write ⟨by omega, by omega⟩]
    simp only [Option.bind_some]
    rw [if_neg (by simp only [List.length_append]; omega)]
    simp
theorem wI_len {n : Int} (h : inI n) : 2 ≤ (wI n).length := by
  have := itoa_len h
  rw [wI, List.length_append, List.length_singleton]; omega
theorem wS_len {s : Txt} (h : okS s) : 2 ≤ (wS s).length := by
  unfold okS at h
  have := wI_len (n := s.length) ⟨by omega, by omega⟩
  rw [wS, List.length_append]; omega
def wN {α : Type} (w : α → Txt) (l : List α) : Txt := (l.map w).flatten
section
variable {α : Type} {w : α → Txt} {R : Txt → Option (α × Txt)} {ok : α → Prop}
end
end Go.Wire


set_option maxRecDepth 10000
namespace Go.Wire
open Go.Lib
def putD : Nat → Nat → Txt → Txt
  | 0, _, out => out
  | k + 1, m, out => if m < 10 then UInt8.ofNat (48 + m) :: out else putD k (m / 10) (UInt8.ofNat (48 + m % 10) :: out)
def refD : Int → Txt → Option (Int × Txt)
  | n, [] => some (n, [])
  | n, c :: t => if 48 ≤ c.toNat ∧ c.toNat ≤ 57 then
      (if n < -922337203685477580 ∨ n = -922337203685477580 ∧ (c.toNat : Int) - 48 > 8 then none else refD (10 * n - ((c.toNat : Int) - 48)) t)
    else some (n, c :: t)
def dv (c : UInt8) : Nat := c.toNat - 48
def val (a : Nat) (l : Txt) : Nat := l.foldl (fun a c => a * 10 + dv c) a
theorem val_nil (a : Nat) : val a [] = a := by rw [val, List.foldl_nil]
theorem val_cons (a : Nat) (c : UInt8) (l : Txt) : val a (c :: l) = val (a * 10 + dv c) l := by rw [val, List.foldl_cons, val]
theorem val_snoc (l : Txt) (a : Nat) (c : UInt8) : val a (l ++ [c]) = val a l * 10 + dv c := by
  rw [val, List.foldl_append, List.foldl_cons, List.foldl_nil, val]
theorem val_ge : ∀ (l : Txt) (a : Nat), a ≤ val a l
  | [], a => by rw [val_nil]; exact Nat.le_refl _
  | c :: l, a => by
    have h := val_ge l (a * 10 + dv c)
    rw [val_cons]
    omega
theorem canon : ∀ (k : Nat) (l : Txt), l.length = k → l ≠ [] → (∀ c, c ∈ l → 48 ≤ c.toNat ∧ c.toNat ≤ 57) → (1 < l.length → ∀ c t, l = c :: t → c.toNat ≠ 48) → decDigits (val 0 l) = l
  | 0, l, hk, hne, _, _ => absurd (List.length_eq_zero_iff.1 hk) hne
  | k + 1, l, hk, hne, hd, hz => by
    obtain ⟨i, c, rfl⟩ : ∃ i c, l = i ++ [c] := ⟨l.dropLast, l.getLast hne, (List.dropLast_concat_getLast hne).symm⟩
    have hc := hd c (by simp)
    have hdv : dv c = c.toNat - 48 := rfl
    have hcc : UInt8.ofNat (48 + dv c) = c := by
      rw [show 48 + dv c = c.toNat by omega]; exact UInt8.ofNat_toNat
    rw [val_snoc]
    cases i with
    | nil =>
      rw [val_nil, dec_small (by omega)]
      rw [show 0 * 10 + dv c = dv c by omega, hcc]; rfl
    | cons x i =>
      have hx := hd x (by simp)
      have hx0 := hz (by simp) x (i ++ [c]) rfl
      have ih := canon k (x :: i) (by simpa using hk) (by simp) (fun y hy => hd y (by rw [List.mem_append]; exact .inl hy)) (fun h y t e => by cases e; exact hx0)
      have hv : 1 ≤ val 0 (x :: i) := by
        have h := val_ge i (0 * 10 + dv x)
        have hdx : dv x = x.toNat - 48 := rfl
        rw [val_cons]
        omega
      rw [dec_big (by omega), show (val 0 (x :: i) * 10 + dv c) / 10 = val 0 (x :: i) by omega, ih,
        show (val 0 (x :: i) * 10 + dv c) % 10 = dv c by omega, hcc]
theorem refD_some : ∀ (s : Txt) (n m : Int) (t : Txt) (a : Nat), n = -(a : Int) → a ≤ 9223372036854775808 → refD n s = some (m, t) →
    ∃ ds, s = ds ++ t ∧ (∀ c, c ∈ ds → 48 ≤ c.toNat ∧ c.toNat ≤ 57) ∧ m = -(val a ds : Int) ∧ val a ds ≤ 9223372036854775808
  | [], n, m, t, a, ha, hb, h => by
    cases h
    exact ⟨[], rfl, (fun _ h => nomatch h), by rw [val_nil]; exact ha, by rw [val_nil]; exact hb⟩
  | c :: s, n, m, t, a, ha, hb, h => by
    rw [refD] at h
    split at h
    · rename_i hc
      split at h
      · cases h
      · rename_i hn
        have hdv : dv c = c.toNat - 48 := rfl
        obtain ⟨ds, h1, h2, h3, h4⟩ := refD_some s _ m t (a * 10 + dv c) (by omega) (by omega) h
        refine ⟨c :: ds, by rw [h1]; rfl, fun x hx => ?_, by rw [val_cons]; exact h3, by rw [val_cons]; exact h4⟩
        rcases List.mem_cons.1 hx with rfl | hx
        · exact hc
        · exact h2 x hx
    · cases h
      exact ⟨[], rfl, (fun _ h => nomatch h), by rw [val_nil]; exact ha, by rw [val_nil]; exact hb⟩
theorem refD_append : ∀ (l1 l2 : Txt) (n m : Int), refD n l1 = some (m, []) → refD n (l1 ++ l2) = refD m l2
  | [], l2, n, m, h => by cases h; rfl
  | c :: l1, l2, n, m, h => by
    rw [refD] at h
    rw [List.cons_append, refD]
    split at h
    · rename_i hc
      rw [if_pos hc]
      split at h
      · cases h
      · rename_i hn
        rw [if_neg hn]
        exact refD_append l1 l2 _ m h
    · cases h
theorem refD_dec (u : Nat) (hu : u ≤ 9223372036854775808) : refD 0 (decDigits u) = some (-(u : Int), []) := by
  induction u using Nat.strongRecOn with
  | _ u ih =>
    by_cases h : u < 10
    · rw [dec_small h, refD, dg_toNat h, if_pos (by omega), if_neg (by omega), refD]
      congr 2; omega
    · rw [dec_big h, refD_append _ _ 0 _ (ih (u / 10) (by omega) (by omega)), refD, dg_toNat (by omega), if_pos (by omega), if_neg (by omega), refD]
      congr 2; omega
def refB (neg : Bool) (b : Txt) : Option (Int × Txt) := (refD 0 b).bind fun p =>
  if p.2.length = b.length ∨ p.2 = [] ∨ p.2.head? ≠ some 59 ∨ b.length - p.2.length > 1 ∧ b.head? = some 48 then none
  else if neg = true ∧ p.1 = 0 then none
  else if neg = true then some (p.1, p.2.tail)
  else if p.1 = -9223372036854775808 then none
  else some (-p.1, p.2.tail)
def refI (s : Txt) : Option (Int × Txt) := if s.head? = some 45 then refB true s.tail else refB false s
theorem refB_some {neg : Bool} {b r : Txt} {n : Int} (h : refB neg b = some (n, r)) :
    ∃ u : Nat, b = decDigits u ++ 59 :: r ∧ (if neg = true then n = -(u : Int) ∧ 0 < u ∧ u ≤ 9223372036854775808 else n = u ∧ u ≤ 9223372036854775807) := by
  unfold refB at h
  cases hr : refD 0 b with
  | none => rw [hr] at h; cases h
  | some p =>
    obtain ⟨m, t⟩ := p
    rw [hr] at h
    simp only [Option.bind_some] at h
    obtain ⟨ds, h1, h2, h3, h4⟩ := refD_some b 0 m t 0 rfl (by omega) hr
    split at h
    · cases h
    · rename_i hc
      simp only [not_or, not_and] at hc
      obtain ⟨c1, c2, c3, c4⟩ := hc
      cases t with
      | nil => exact absurd rfl c2
      | cons c t =>
        have e59 : c = 59 := by simpa using c3
        subst e59
        have hne : ds ≠ [] := by
          rintro rfl
          rw [h1] at c1
          exact c1 rfl
        have hca := canon ds.length ds rfl hne h2 (fun hl c t e => by
          have hb : b.head? = some c := by rw [h1, e]; rfl
          intro h48
          have hc48 : c = 48 := UInt8.toNat_inj.1 h48
          refine c4 ?_ (by rw [hb, hc48])
          rw [h1, List.length_append]; simp only [List.length_cons]; omega)
        refine ⟨val 0 ds, ?_⟩
        split at h
        · cases h
        · rename_i d1
          cases neg
          · simp only [Bool.false_eq_true, if_false] at h ⊢
            split at h
            · cases h
            · rename_i d2
              cases h
              exact ⟨by rw [hca]; exact h1, by omega, by omega⟩
          · simp only [if_true] at h ⊢
            simp only [true_and] at d1
            cases h
            exact ⟨by rw [hca]; exact h1, h3, by omega, h4⟩
theorem refB_write (neg : Bool) (u : Nat) (r : Txt) (h : if neg = true then 0 < u ∧ u ≤ 9223372036854775808 else u ≤ 9223372036854775807) :
    refB neg (decDigits u ++ 59 :: r) = some (if neg = true then -(u : Int) else u, r) := by
  have hu : u ≤ 9223372036854775808 := by
    split at h <;> omega
  have e : refD 0 (decDigits u ++ 59 :: r) = some (-(u : Int), 59 :: r) := by
    rw [refD_append _ _ 0 _ (refD_dec u hu), refD]
    exact if_neg (by decide)
  have hne := List.length_pos_iff.2 (dec_ne u)
  unfold refB
  rw [e]
  simp only [Option.bind_some]
  have hz : ¬ ((59 :: r : Txt).length = (decDigits u ++ 59 :: r).length ∨ (59 :: r : Txt) = [] ∨ (59 :: r : Txt).head? ≠ some 59 ∨ (decDigits u ++ 59 :: r).length - (59 :: r : Txt).length > 1 ∧ (decDigits u ++ 59 :: r).head? = some 48) := by
    rintro (h1 | h1 | h1 | ⟨h1, h2⟩)
    · rw [List.length_append] at h1; omega
    · cases h1
    · exact h1 rfl
    · rw [List.length_append] at h1
      by_cases h0 : 0 < u
      · obtain ⟨c, t, hd, hc⟩ := dec_head u h0
        rw [hd] at h2
        simp only [List.cons_append, List.head?_cons, Option.some.injEq] at h2
        subst h2
        exact hc rfl
      · obtain rfl : u = 0 := by omega
        rw [dec_small (by omega)] at h1
        simp only [List.length_singleton] at h1
        omega
  rw [if_neg hz]
  cases neg
  · simp only [Bool.false_eq_true, false_and, if_false] at h ⊢
    rw [if_neg (by omega)]
    simp
  · simp only [if_true, true_and] at h ⊢
    rw [if_neg (by omega)]
    rfl
theorem refI_eq (s : Txt) : refI s = rI s := by
  have hiff : ∀ n r, refI s = some (n, r) ↔ inI n ∧ s = wI n ++ r := by
    intro n r
    constructor
    · intro h
      unfold refI at h
      split at h
      · rename_i hs
        obtain ⟨u, h1, h2⟩ := refB_some h
        simp only [if_true] at h2
        obtain ⟨rfl, h3, h4⟩ := h2
        refine ⟨⟨by omega, by omega⟩, ?_⟩
        rw [wI, itoa, if_pos (by omega), show (-(u : Int)).natAbs = u by omega]
        cases s with
        | nil => cases hs
        | cons c s =>
          simp only [List.head?_cons, Option.some.injEq] at hs
          subst hs
          simp only [List.tail_cons] at h1
          rw [h1]; simp
      · obtain ⟨u, h1, h2⟩ := refB_some h
        simp only [Bool.false_eq_true, if_false] at h2
        obtain ⟨rfl, h3⟩ := h2
        refine ⟨⟨by omega, by omega⟩, ?_⟩
        rw [wI, itoa, if_neg (by omega), show ((u : Int)).toNat = u by omega, h1]; simp
    · rintro ⟨⟨h1, h2⟩, rfl⟩
      unfold refI wI itoa
      by_cases hn : n < 0
      · rw [if_pos hn]
        simp only [List.cons_append, List.head?_cons, if_true, List.tail_cons, List.append_assoc, List.nil_append]
        rw [refB_write true n.natAbs r (by simp only [if_true]; omega)]
        simp only [if_true]
        congr 2; omega
      · rw [if_neg hn]
        obtain ⟨c, t, hd⟩ : ∃ c t, decDigits n.toNat = c :: t := by
          cases h : decDigits n.toNat with
          | nil => exact absurd h (dec_ne _)
          | cons c t => exact ⟨c, t, rfl⟩
        have hc := dec_dig n.toNat c (by rw [hd]; simp)
        have h45 : ¬ (decDigits n.toNat ++ [59] ++ r).head? = some 45 := by
          rw [hd]
          simp only [List.cons_append, List.head?_cons, Option.some.injEq]
          rintro rfl
          have e : (45 : UInt8).toNat = 45 := rfl
          omega
        rw [if_neg h45, List.append_assoc, List.singleton_append, refB_write false n.toNat r (by simp only [Bool.false_eq_true, if_false]; omega)]
        simp only [Bool.false_eq_true, if_false]
        congr 2; omega
  apply Option.ext
  rintro ⟨n, r⟩
  rw [hiff, rI_iff]
end Go.Wire


set_option maxRecDepth 100000
namespace Go.Proofs
open Go.Shelf Go.RowKit
def Tryz.laysCut_ren : Go.Shelf.Ren :=
  {
    f := fun x =>
      match x with
      | 145 => 64
      | 220 => 72
      | 219 => 76
      | 217 => 86
      | 225 => 87
      | 224 => 88
      | 267 => 89
      | 266 => 98
      | 314 => 99
      | n => n,
    t := fun x =>
      match x with
      | 9 => 9
      | 4 => 4
      | 59 => 60
      | 3 => 3
      | 5 => 5
      | 46 => 82
      | 146 => 90
      | 51 => 89
      | n => n,
    g := fun x =>
      match x with
      | 1 => 0
      | n => n }
theorem Tryz.laysCut : Lays.n145 Tryz.prog Tryz.laysCut_ren :=
  { mixed := by kernel_rfl, f145 := Eq.trans Tryz.func64 (congrArg some (Eq.refl (Body.n145 Tryz.laysCut_ren))),
    f217 := Eq.trans Tryz.func86 (congrArg some (Eq.refl (Body.n217 Tryz.laysCut_ren))),
    f219 := Eq.trans Tryz.func76 (congrArg some (Eq.refl (Body.n219 Tryz.laysCut_ren))),
    f220 := Eq.trans Tryz.func72 (congrArg some (Eq.refl (Body.n220 Tryz.laysCut_ren))),
    f224 := Eq.trans Tryz.func88 (congrArg some (Eq.refl (Body.n224 Tryz.laysCut_ren))),
    f225 := Eq.trans Tryz.func87 (congrArg some (Eq.refl (Body.n225 Tryz.laysCut_ren))),
    f266 := Eq.trans Tryz.func98 (congrArg some (Eq.refl (Body.n266 Tryz.laysCut_ren))),
    f267 := Eq.trans Tryz.func89 (congrArg some (Eq.refl (Body.n267 Tryz.laysCut_ren))),
    f314 := Eq.trans Tryz.func99 (congrArg some (Eq.refl (Body.n314 Tryz.laysCut_ren))), t3 := Tryz.underlying3,
    a3 := Tryz.isAgg3, z3 := Tryz.sizeOf3, v3 := Tryz.zeroValue3, t4 := Tryz.underlying4, a4 := Tryz.isAgg4,
    z4 := Tryz.sizeOf4, v4 := Tryz.zeroValue4, t5 := Tryz.underlying5, a5 := Tryz.isAgg5, z5 := Tryz.sizeOf5,
    v5 := Tryz.zeroValue5, t9 := Tryz.underlying9, a9 := Tryz.isAgg9, z9 := Tryz.sizeOf9, v9 := Tryz.zeroValue9,
    t46 := Tryz.underlying82, a46 := Tryz.isAgg82, z46 := Tryz.sizeOf82, v46 := Tryz.zeroValue82,
    t51 := Tryz.underlying89, a51 := Tryz.isAgg89, z51 := Tryz.sizeOf89, v51 := Tryz.zeroValue89,
    t59 := Tryz.underlying60, a59 := Tryz.isAgg60, z59 := Tryz.sizeOf60, v59 := Tryz.zeroValue60,
    t146 := Tryz.underlying90, a146 := Tryz.isAgg90, z146 := Tryz.sizeOf90, v146 := Tryz.zeroValue90,
    g1 := by kernel_rfl }
def Tryz.laysItoa_ren : Go.Shelf.Ren :=
  {
    f := fun x =>
      match x with
      | 171 => 55
      | 243 => 66
      | 246 => 75
      | 283 => 82
      | 284 => 83
      | 285 => 84
      | 286 => 85
      | 129 => 94
      | 317 => 93
      | 318 => 95
      | 319 => 96
      | 320 => 97
      | 337 => 102
      | 338 => 103
      | n => n,
    t := fun x =>
      match x with
      | 3 => 3
      | 9 => 9
      | 2 => 2
      | 4 => 4
      | 171 => 107
      | 0 => 0
      | 53 => 92
      | 37 => 68
      | 5 => 5
      | 173 => 110
      | 212 => 119
      | 51 => 89
      | 20 => 20
      | 213 => 120
      | 46 => 82
      | 232 => 130
      | 233 => 131
      | n => n,
    g := fun x =>
      match x with
      | 17 => 3
      | 18 => 4
      | 19 => 5
      | n => n }
theorem Tryz.laysItoa : LaysM.n171 Tryz.prog Tryz.laysItoa_ren :=
  { mixed := by kernel_rfl, f129 := Eq.trans Tryz.func94 (congrArg some (Eq.refl (Body.n129 Tryz.laysItoa_ren))),
    f171 := Eq.trans Tryz.func55 (congrArg some (Eq.refl (Body.n171 Tryz.laysItoa_ren))),
    f243 := Eq.trans Tryz.func66 (congrArg some (Eq.refl (Body.n243 Tryz.laysItoa_ren))),
    f246 := Eq.trans Tryz.func75 (congrArg some (Eq.refl (Body.n246 Tryz.laysItoa_ren))),
    f283 := Eq.trans Tryz.func82 (congrArg some (Eq.refl (Body.n283 Tryz.laysItoa_ren))),
    f284 := Eq.trans Tryz.func83 (congrArg some (Eq.refl (Body.n284 Tryz.laysItoa_ren))),
    f285 := Eq.trans Tryz.func84 (congrArg some (Eq.refl (Body.n285 Tryz.laysItoa_ren))),
    f286 := Eq.trans Tryz.func85 (congrArg some (Eq.refl (Body.n286 Tryz.laysItoa_ren))),
    f317 := Eq.trans Tryz.func93 (congrArg some (Eq.refl (Body.n317 Tryz.laysItoa_ren))),
    f318 := Eq.trans Tryz.func95 (congrArg some (Eq.refl (Body.n318 Tryz.laysItoa_ren))),
    f319 := Eq.trans Tryz.func96 (congrArg some (Eq.refl (Body.n319 Tryz.laysItoa_ren))),
    f320 := Eq.trans Tryz.func97 (congrArg some (Eq.refl (Body.n320 Tryz.laysItoa_ren))),
    f337 := Eq.trans Tryz.func102 (congrArg some (Eq.refl (Body.n337 Tryz.laysItoa_ren))),
    f338 := Eq.trans Tryz.func103 (congrArg some (Eq.refl (Body.n338 Tryz.laysItoa_ren))), t0 := Tryz.underlying0,
    a0 := Tryz.isAgg0, z0 := Tryz.sizeOf0, v0 := Tryz.zeroValue0, t2 := Tryz.underlying2, a2 := Tryz.isAgg2,
    z2 := Tryz.sizeOf2, v2 := Tryz.zeroValue2, t3 := Tryz.underlying3, a3 := Tryz.isAgg3, z3 := Tryz.sizeOf3,
    v3 := Tryz.zeroValue3, t4 := Tryz.underlying4, a4 := Tryz.isAgg4, z4 := Tryz.sizeOf4, v4 := Tryz.zeroValue4,
    t5 := Tryz.underlying5, a5 := Tryz.isAgg5, z5 := Tryz.sizeOf5, v5 := Tryz.zeroValue5, t9 := Tryz.underlying9,
    a9 := Tryz.isAgg9, z9 := Tryz.sizeOf9, v9 := Tryz.zeroValue9, t20 := Tryz.underlying20, a20 := Tryz.isAgg20,
    z20 := Tryz.sizeOf20, v20 := Tryz.zeroValue20, t37 := Tryz.underlying68, a37 := Tryz.isAgg68, z37 := Tryz.sizeOf68,
    v37 := Tryz.zeroValue68, t46 := Tryz.underlying82, a46 := Tryz.isAgg82, z46 := Tryz.sizeOf82, v46 := Tryz.zeroValue82,
    t51 := Tryz.underlying89, a51 := Tryz.isAgg89, z51 := Tryz.sizeOf89, v51 := Tryz.zeroValue89,
    t53 := Tryz.underlying92, a53 := Tryz.isAgg92, z53 := Tryz.sizeOf92, v53 := Tryz.zeroValue92,
    t171 := Tryz.underlying107, a171 := Tryz.isAgg107, z171 := Tryz.sizeOf107, v171 := Tryz.zeroValue107,
    t173 := Tryz.underlying110, a173 := Tryz.isAgg110, z173 := Tryz.sizeOf110, v173 := Tryz.zeroValue110,
    t212 := Tryz.underlying119, a212 := Tryz.isAgg119, z212 := Tryz.sizeOf119, v212 := Tryz.zeroValue119,
    t213 := Tryz.underlying120, a213 := Tryz.isAgg120, z213 := Tryz.sizeOf120, t232 := Tryz.underlying130,
    a232 := Tryz.isAgg130, z232 := Tryz.sizeOf130, v232 := Tryz.zeroValue130, t233 := Tryz.underlying131,
    a233 := Tryz.isAgg131, z233 := Tryz.sizeOf131, v233 := Tryz.zeroValue131,
    g17 := by kernel_rfl, g18 := by kernel_rfl,
    g19 := by kernel_rfl, i0 := by kernel_rfl,
    i2 := by kernel_rfl,
    i3 := by kernel_rfl, i4 := by kernel_rfl,
    i5 := by kernel_rfl,
    i9 := by kernel_rfl, i20 := by kernel_rfl,
    i37 := by kernel_rfl,
    i46 := by kernel_rfl,
    i51 := by kernel_rfl,
    i53 := by kernel_rfl,
    i171 :=
      Eq.refl
        (some
          (some
              (Value.agg
                #[Value.int IntKind.u8 0, Value.int IntKind.u8 0, Value.int IntKind.u8 0, Value.int IntKind.u8 0,
                  Value.int IntKind.u8 0, Value.int IntKind.u8 0, Value.int IntKind.u8 0, Value.int IntKind.u8 0,
                  Value.int IntKind.u8 0, Value.int IntKind.u8 0, Value.int IntKind.u8 0, Value.int IntKind.u8 0,
                  Value.int IntKind.u8 0, Value.int IntKind.u8 0, Value.int IntKind.u8 0, Value.int IntKind.u8 0,
                  Value.int IntKind.u8 0, Value.int IntKind.u8 0, Value.int IntKind.u8 0, Value.int IntKind.u8 0,
                  Value.int IntKind.u8 0, Value.int IntKind.u8 0, Value.int IntKind.u8 0, Value.int IntKind.u8 0]),
            24, 24)),
    i173 := by kernel_rfl,
    i212 :=
      Eq.refl
        (some
          (some
              (Value.agg
                #[Value.int IntKind.u64 0, Value.int IntKind.u64 0, Value.int IntKind.u64 0, Value.int IntKind.u64 0,
                  Value.int IntKind.u64 0, Value.int IntKind.u64 0, Value.int IntKind.u64 0, Value.int IntKind.u64 0,
                  Value.int IntKind.u64 0, Value.int IntKind.u64 0, Value.int IntKind.u64 0, Value.int IntKind.u64 0,
                  Value.int IntKind.u64 0, Value.int IntKind.u64 0, Value.int IntKind.u64 0, Value.int IntKind.u64 0,
                  Value.int IntKind.u64 0, Value.int IntKind.u64 0, Value.int IntKind.u64 0, Value.int IntKind.u64 0]),
            20, 160)),
    i232 :=
      Eq.refl
        (some
          (some
              (Value.agg
                #[Value.int IntKind.u8 0, Value.int IntKind.u8 0, Value.int IntKind.u8 0, Value.int IntKind.u8 0,
                  Value.int IntKind.u8 0, Value.int IntKind.u8 0, Value.int IntKind.u8 0, Value.int IntKind.u8 0,
                  Value.int IntKind.u8 0, Value.int IntKind.u8 0, Value.int IntKind.u8 0, Value.int IntKind.u8 0,
                  Value.int IntKind.u8 0, Value.int IntKind.u8 0, Value.int IntKind.u8 0, Value.int IntKind.u8 0,
                  Value.int IntKind.u8 0, Value.int IntKind.u8 0, Value.int IntKind.u8 0, Value.int IntKind.u8 0,
                  Value.int IntKind.u8 0, Value.int IntKind.u8 0, Value.int IntKind.u8 0, Value.int IntKind.u8 0,
                  Value.int IntKind.u8 0, Value.int IntKind.u8 0, Value.int IntKind.u8 0, Value.int IntKind.u8 0,
                  Value.int IntKind.u8 0, Value.int IntKind.u8 0, Value.int IntKind.u8 0, Value.int IntKind.u8 0]),
            32, 32)),
    i233 :=
      Eq.refl
        (some
          (some
              (Value.agg
                (let y :=
                    let y :=
                      let y :=
                        let y :=
                          [Value.int IntKind.u8 0, Value.int IntKind.u8 0, Value.int IntKind.u8 0,
                            Value.int IntKind.u8 0];
                        Value.int IntKind.u8 0 ::
                          Value.int IntKind.u8 0 :: Value.int IntKind.u8 0 :: Value.int IntKind.u8 0 :: y;
                      let y :=
                        Value.int IntKind.u8 0 ::
                          Value.int IntKind.u8 0 :: Value.int IntKind.u8 0 :: Value.int IntKind.u8 0 :: y;
                      Value.int IntKind.u8 0 ::
                        Value.int IntKind.u8 0 :: Value.int IntKind.u8 0 :: Value.int IntKind.u8 0 :: y;
                    let y :=
                      let y :=
                        Value.int IntKind.u8 0 ::
                          Value.int IntKind.u8 0 :: Value.int IntKind.u8 0 :: Value.int IntKind.u8 0 :: y;
                      Value.int IntKind.u8 0 ::
                        Value.int IntKind.u8 0 :: Value.int IntKind.u8 0 :: Value.int IntKind.u8 0 :: y;
                    let y :=
                      Value.int IntKind.u8 0 ::
                        Value.int IntKind.u8 0 :: Value.int IntKind.u8 0 :: Value.int IntKind.u8 0 :: y;
                    Value.int IntKind.u8 0 ::
                      Value.int IntKind.u8 0 :: Value.int IntKind.u8 0 :: Value.int IntKind.u8 0 :: y;
                  let y :=
                    let y :=
                      let y :=
                        Value.int IntKind.u8 0 ::
                          Value.int IntKind.u8 0 :: Value.int IntKind.u8 0 :: Value.int IntKind.u8 0 :: y;
                      Value.int IntKind.u8 0 ::
                        Value.int IntKind.u8 0 :: Value.int IntKind.u8 0 :: Value.int IntKind.u8 0 :: y;
                    let y :=
                      Value.int IntKind.u8 0 ::
                        Value.int IntKind.u8 0 :: Value.int IntKind.u8 0 :: Value.int IntKind.u8 0 :: y;
                    Value.int IntKind.u8 0 ::
                      Value.int IntKind.u8 0 :: Value.int IntKind.u8 0 :: Value.int IntKind.u8 0 :: y;
                  let y :=
                    let y :=
                      Value.int IntKind.u8 0 ::
                        Value.int IntKind.u8 0 :: Value.int IntKind.u8 0 :: Value.int IntKind.u8 0 :: y;
                    Value.int IntKind.u8 0 ::
                      Value.int IntKind.u8 0 :: Value.int IntKind.u8 0 :: Value.int IntKind.u8 0 :: y;
                  let y :=
                    Value.int IntKind.u8 0 ::
                      Value.int IntKind.u8 0 :: Value.int IntKind.u8 0 :: Value.int IntKind.u8 0 :: y;
                  Value.int IntKind.u8 0 ::
                    Value.int IntKind.u8 0 :: Value.int IntKind.u8 0 :: Value.int IntKind.u8 0 :: y).toArray),
            64, 64)),
    m17 := by kernel_rfl, m18 := by kernel_rfl,
    m19 := by kernel_rfl }
def Tryz.laysAtoi_ren : Go.Shelf.Ren :=
  {
    f := fun x =>
      match x with
      | 172 => 65
      | 244 => 73
      | 245 => 74
      | 247 => 77
      | 279 => 78
      | 280 => 79
      | 281 => 80
      | 282 => 81
      | 287 => 90
      | 316 => 91
      | 171 => 55
      | 205 => 92
      | 321 => 100
      | 322 => 101
      | 243 => 66
      | 246 => 75
      | 283 => 82
      | 284 => 83
      | 285 => 84
      | 286 => 85
      | 129 => 94
      | 317 => 93
      | 318 => 95
      | 319 => 96
      | 320 => 97
      | 337 => 102
      | 338 => 103
      | n => n,
    t := fun x =>
      match x with
      | 9 => 9
      | 3 => 3
      | 75 => 76
      | 76 => 77
      | 4 => 4
      | 5 => 5
      | 167 => 101
      | 37 => 68
      | 0 => 0
      | 85 => 102
      | 2 => 2
      | 168 => 104
      | 53 => 92
      | 175 => 113
      | 46 => 82
      | 210 => 116
      | 127 => 87
      | 145 => 128
      | 143 => 126
      | 21 => 21
      | 171 => 107
      | 173 => 110
      | 212 => 119
      | 51 => 89
      | 20 => 20
      | 213 => 120
      | 232 => 130
      | 233 => 131
      | 80 => 79
      | n => n,
    g := fun x =>
      match x with
      | 15 => 1
      | 16 => 2
      | 17 => 3
      | 18 => 4
      | 19 => 5
      | n => n }
theorem Tryz.laysAtoi : LaysC.n172 Tryz.prog Tryz.laysAtoi_ren :=
  { mixed := by kernel_rfl, f129 := Eq.trans Tryz.func94 (congrArg some (Eq.refl (Body.n129 Tryz.laysAtoi_ren))),
    f171 := Eq.trans Tryz.func55 (congrArg some (Eq.refl (Body.n171 Tryz.laysAtoi_ren))),
    f172 := Eq.trans Tryz.func65 (congrArg some (Eq.refl (Body.n172 Tryz.laysAtoi_ren))),
    f205 := Eq.trans Tryz.func92 (congrArg some (Eq.refl (Body.n205 Tryz.laysAtoi_ren))),
    f243 := Eq.trans Tryz.func66 (congrArg some (Eq.refl (Body.n243 Tryz.laysAtoi_ren))),
    f244 := Eq.trans Tryz.func73 (congrArg some (Eq.refl (Body.n244 Tryz.laysAtoi_ren))),
    f245 := Eq.trans Tryz.func74 (congrArg some (Eq.refl (Body.n245 Tryz.laysAtoi_ren))),
    f246 := Eq.trans Tryz.func75 (congrArg some (Eq.refl (Body.n246 Tryz.laysAtoi_ren))),
    f247 := Eq.trans Tryz.func77 (congrArg some (Eq.refl (Body.n247 Tryz.laysAtoi_ren))),
    f279 := Eq.trans Tryz.func78 (congrArg some (Eq.refl (Body.n279 Tryz.laysAtoi_ren))),
    f280 := Eq.trans Tryz.func79 (congrArg some (Eq.refl (Body.n280 Tryz.laysAtoi_ren))),
    f281 := Eq.trans Tryz.func80 (congrArg some (Eq.refl (Body.n281 Tryz.laysAtoi_ren))),
    f282 := Eq.trans Tryz.func81 (congrArg some (Eq.refl (Body.n282 Tryz.laysAtoi_ren))),
    f283 := Eq.trans Tryz.func82 (congrArg some (Eq.refl (Body.n283 Tryz.laysAtoi_ren))),
    f284 := Eq.trans Tryz.func83 (congrArg some (Eq.refl (Body.n284 Tryz.laysAtoi_ren))),
    f285 := Eq.trans Tryz.func84 (congrArg some (Eq.refl (Body.n285 Tryz.laysAtoi_ren))),
    f286 := Eq.trans Tryz.func85 (congrArg some (Eq.refl (Body.n286 Tryz.laysAtoi_ren))),
    f287 := Eq.trans Tryz.func90 (congrArg some (Eq.refl (Body.n287 Tryz.laysAtoi_ren))),
    f316 := Eq.trans Tryz.func91 (congrArg some (Eq.refl (Body.n316 Tryz.laysAtoi_ren))),
    f317 := Eq.trans Tryz.func93 (congrArg some (Eq.refl (Body.n317 Tryz.laysAtoi_ren))),
    f318 := Eq.trans Tryz.func95 (congrArg some (Eq.refl (Body.n318 Tryz.laysAtoi_ren))),
    f319 := Eq.trans Tryz.func96 (congrArg some (Eq.refl (Body.n319 Tryz.laysAtoi_ren))),
    f320 := Eq.trans Tryz.func97 (congrArg some (Eq.refl (Body.n320 Tryz.laysAtoi_ren))),
    f321 := Eq.trans Tryz.func100 (congrArg some (Eq.refl (Body.n321 Tryz.laysAtoi_ren))),
    f322 := Eq.trans Tryz.func101 (congrArg some (Eq.refl (Body.n322 Tryz.laysAtoi_ren))),
    f337 := Eq.trans Tryz.func102 (congrArg some (Eq.refl (Body.n337 Tryz.laysAtoi_ren))),
    f338 := Eq.trans Tryz.func103 (congrArg some (Eq.refl (Body.n338 Tryz.laysAtoi_ren))), t0 := Tryz.underlying0,
    a0 := Tryz.isAgg0, z0 := Tryz.sizeOf0, v0 := Tryz.zeroValue0, t2 := Tryz.underlying2, a2 := Tryz.isAgg2,
    z2 := Tryz.sizeOf2, v2 := Tryz.zeroValue2, t3 := Tryz.underlying3, a3 := Tryz.isAgg3, z3 := Tryz.sizeOf3,
    v3 := Tryz.zeroValue3, t4 := Tryz.underlying4, a4 := Tryz.isAgg4, z4 := Tryz.sizeOf4, v4 := Tryz.zeroValue4,
    t5 := Tryz.underlying5, a5 := Tryz.isAgg5, z5 := Tryz.sizeOf5, v5 := Tryz.zeroValue5, t9 := Tryz.underlying9,
    a9 := Tryz.isAgg9, z9 := Tryz.sizeOf9, v9 := Tryz.zeroValue9, t20 := Tryz.underlying20, a20 := Tryz.isAgg20,
    z20 := Tryz.sizeOf20, v20 := Tryz.zeroValue20, t21 := Tryz.underlying21, a21 := Tryz.isAgg21, z21 := Tryz.sizeOf21,
    v21 := Tryz.zeroValue21, t37 := Tryz.underlying68, a37 := Tryz.isAgg68, z37 := Tryz.sizeOf68, v37 := Tryz.zeroValue68,
    t46 := Tryz.underlying82, a46 := Tryz.isAgg82, z46 := Tryz.sizeOf82, v46 := Tryz.zeroValue82,
    t51 := Tryz.underlying89, a51 := Tryz.isAgg89, z51 := Tryz.sizeOf89, v51 := Tryz.zeroValue89,
    t53 := Tryz.underlying92, a53 := Tryz.isAgg92, z53 := Tryz.sizeOf92, v53 := Tryz.zeroValue92,
    t75 := Tryz.underlying76, a75 := Tryz.isAgg76, z75 := Tryz.sizeOf76, v75 := Tryz.zeroValue76,
    t76 := Tryz.underlying77, a76 := Tryz.isAgg77, z76 := Tryz.sizeOf77, v76 := Tryz.zeroValue77,
    t85 := Tryz.underlying102, a85 := Tryz.isAgg102, z85 := Tryz.sizeOf102, v85 := Tryz.zeroValue102,
    t127 := Tryz.underlying87, a127 := Tryz.isAgg87, z127 := Tryz.sizeOf87, v127 := Tryz.zeroValue87,
    t143 := Tryz.underlying126, a143 := Tryz.isAgg126, z143 := Tryz.sizeOf126, v143 := Tryz.zeroValue126,
    t145 := Tryz.underlying128, a145 := Tryz.isAgg128, z145 := Tryz.sizeOf128, v145 := Tryz.zeroValue128,
    t167 := Tryz.underlying101, a167 := Tryz.isAgg101, z167 := Tryz.sizeOf101, v167 := Tryz.zeroValue101,
    t168 := Tryz.underlying104, a168 := Tryz.isAgg104, z168 := Tryz.sizeOf104, v168 := Tryz.zeroValue104,
    t171 := Tryz.underlying107, a171 := Tryz.isAgg107, z171 := Tryz.sizeOf107, v171 := Tryz.zeroValue107,
    t173 := Tryz.underlying110, a173 := Tryz.isAgg110, z173 := Tryz.sizeOf110, v173 := Tryz.zeroValue110,
    t175 := Tryz.underlying113, a175 := Tryz.isAgg113, z175 := Tryz.sizeOf113, v175 := Tryz.zeroValue113,
    t210 := Tryz.underlying116, a210 := Tryz.isAgg116, z210 := Tryz.sizeOf116, v210 := Tryz.zeroValue116,
    t212 := Tryz.underlying119, a212 := Tryz.isAgg119, z212 := Tryz.sizeOf119, v212 := Tryz.zeroValue119,
    t213 := Tryz.underlying120, a213 := Tryz.isAgg120, z213 := Tryz.sizeOf120, t232 := Tryz.underlying130,
    a232 := Tryz.isAgg130, z232 := Tryz.sizeOf130, v232 := Tryz.zeroValue130, t233 := Tryz.underlying131,
    a233 := Tryz.isAgg131, z233 := Tryz.sizeOf131, v233 := Tryz.zeroValue131,
    g15 := by kernel_rfl, g16 := by kernel_rfl,
    g17 := by kernel_rfl, g18 := by kernel_rfl,
    g19 := by kernel_rfl, t80 := Tryz.underlying79, a80 := Tryz.isAgg79, z80 := Tryz.sizeOf79,
    v80 := Tryz.zeroValue79, i0 := by kernel_rfl,
    i2 := by kernel_rfl,
    i3 := by kernel_rfl, i4 := by kernel_rfl,
    i5 := by kernel_rfl,
    i9 := by kernel_rfl, i20 := by kernel_rfl,
    i21 := by kernel_rfl,
    i37 := by kernel_rfl,
    i46 := by kernel_rfl,
    i51 := by kernel_rfl,
    i53 := by kernel_rfl, i75 := by kernel_rfl,
    i76 := by kernel_rfl,
    i80 := by kernel_rfl,
    i85 := by kernel_rfl,
    i127 := by kernel_rfl, i143 := by kernel_rfl,
    i145 := by kernel_rfl,
    i167 := by kernel_rfl,
    i168 := by kernel_rfl,
    i171 :=
      Eq.refl
        (some
          (some
              (Value.agg
                #[Value.int IntKind.u8 0, Value.int IntKind.u8 0, Value.int IntKind.u8 0, Value.int IntKind.u8 0,
                  Value.int IntKind.u8 0, Value.int IntKind.u8 0, Value.int IntKind.u8 0, Value.int IntKind.u8 0,
                  Value.int IntKind.u8 0, Value.int IntKind.u8 0, Value.int IntKind.u8 0, Value.int IntKind.u8 0,
                  Value.int IntKind.u8 0, Value.int IntKind.u8 0, Value.int IntKind.u8 0, Value.int IntKind.u8 0,
                  Value.int IntKind.u8 0, Value.int IntKind.u8 0, Value.int IntKind.u8 0, Value.int IntKind.u8 0,
                  Value.int IntKind.u8 0, Value.int IntKind.u8 0, Value.int IntKind.u8 0, Value.int IntKind.u8 0]),
            24, 24)),
    i173 := by kernel_rfl,
    i175 := by kernel_rfl,
    i210 :=
      Eq.refl
        (some (some (Value.agg #[Value.string { data := #[] }, Value.string { data := #[] }, Value.nilIface]), 3, 48)),
    i212 :=
      Eq.refl
        (some
          (some
              (Value.agg
                #[Value.int IntKind.u64 0, Value.int IntKind.u64 0, Value.int IntKind.u64 0, Value.int IntKind.u64 0,
                  Value.int IntKind.u64 0, Value.int IntKind.u64 0, Value.int IntKind.u64 0, Value.int IntKind.u64 0,
                  Value.int IntKind.u64 0, Value.int IntKind.u64 0, Value.int IntKind.u64 0, Value.int IntKind.u64 0,
                  Value.int IntKind.u64 0, Value.int IntKind.u64 0, Value.int IntKind.u64 0, Value.int IntKind.u64 0,
                  Value.int IntKind.u64 0, Value.int IntKind.u64 0, Value.int IntKind.u64 0, Value.int IntKind.u64 0]),
            20, 160)),
    i232 :=
      Eq.refl
        (some
          (some
              (Value.agg
                #[Value.int IntKind.u8 0, Value.int IntKind.u8 0, Value.int IntKind.u8 0, Value.int IntKind.u8 0,
                  Value.int IntKind.u8 0, Value.int IntKind.u8 0, Value.int IntKind.u8 0, Value.int IntKind.u8 0,
                  Value.int IntKind.u8 0, Value.int IntKind.u8 0, Value.int IntKind.u8 0, Value.int IntKind.u8 0,
                  Value.int IntKind.u8 0, Value.int IntKind.u8 0, Value.int IntKind.u8 0, Value.int IntKind.u8 0,
                  Value.int IntKind.u8 0, Value.int IntKind.u8 0, Value.int IntKind.u8 0, Value.int IntKind.u8 0,
                  Value.int IntKind.u8 0, Value.int IntKind.u8 0, Value.int IntKind.u8 0, Value.int IntKind.u8 0,
                  Value.int IntKind.u8 0, Value.int IntKind.u8 0, Value.int IntKind.u8 0, Value.int IntKind.u8 0,
                  Value.int IntKind.u8 0, Value.int IntKind.u8 0, Value.int IntKind.u8 0, Value.int IntKind.u8 0]),
            32, 32)),
    i233 :=
      Eq.refl
        (some
          (some
              (Value.agg
                (let y :=
                    let y :=
                      let y :=
                        let y :=
                          [Value.int IntKind.u8 0, Value.int IntKind.u8 0, Value.int IntKind.u8 0,
                            Value.int IntKind.u8 0];
                        Value.int IntKind.u8 0 ::
                          Value.int IntKind.u8 0 :: Value.int IntKind.u8 0 :: Value.int IntKind.u8 0 :: y;
                      let y :=
                        Value.int IntKind.u8 0 ::
                          Value.int IntKind.u8 0 :: Value.int IntKind.u8 0 :: Value.int IntKind.u8 0 :: y;
                      Value.int IntKind.u8 0 ::
                        Value.int IntKind.u8 0 :: Value.int IntKind.u8 0 :: Value.int IntKind.u8 0 :: y;
                    let y :=
                      let y :=
                        Value.int IntKind.u8 0 ::
                          Value.int IntKind.u8 0 :: Value.int IntKind.u8 0 :: Value.int IntKind.u8 0 :: y;
                      Value.int IntKind.u8 0 ::
                        Value.int IntKind.u8 0 :: Value.int IntKind.u8 0 :: Value.int IntKind.u8 0 :: y;
                    let y :=
                      Value.int IntKind.u8 0 ::
                        Value.int IntKind.u8 0 :: Value.int IntKind.u8 0 :: Value.int IntKind.u8 0 :: y;
                    Value.int IntKind.u8 0 ::
                      Value.int IntKind.u8 0 :: Value.int IntKind.u8 0 :: Value.int IntKind.u8 0 :: y;
                  let y :=
                    let y :=
                      let y :=
                        Value.int IntKind.u8 0 ::
                          Value.int IntKind.u8 0 :: Value.int IntKind.u8 0 :: Value.int IntKind.u8 0 :: y;
                      Value.int IntKind.u8 0 ::
                        Value.int IntKind.u8 0 :: Value.int IntKind.u8 0 :: Value.int IntKind.u8 0 :: y;
                    let y :=
                      Value.int IntKind.u8 0 ::
                        Value.int IntKind.u8 0 :: Value.int IntKind.u8 0 :: Value.int IntKind.u8 0 :: y;
                    Value.int IntKind.u8 0 ::
                      Value.int IntKind.u8 0 :: Value.int IntKind.u8 0 :: Value.int IntKind.u8 0 :: y;
                  let y :=
                    let y :=
                      Value.int IntKind.u8 0 ::
                        Value.int IntKind.u8 0 :: Value.int IntKind.u8 0 :: Value.int IntKind.u8 0 :: y;
                    Value.int IntKind.u8 0 ::
                      Value.int IntKind.u8 0 :: Value.int IntKind.u8 0 :: Value.int IntKind.u8 0 :: y;
                  let y :=
                    Value.int IntKind.u8 0 ::
                      Value.int IntKind.u8 0 :: Value.int IntKind.u8 0 :: Value.int IntKind.u8 0 :: y;
                  Value.int IntKind.u8 0 ::
                    Value.int IntKind.u8 0 :: Value.int IntKind.u8 0 :: Value.int IntKind.u8 0 :: y).toArray),
            64, 64)),
    m15 := by kernel_rfl, m16 := by kernel_rfl,
    m17 := by kernel_rfl, m18 := by kernel_rfl,
    m19 := by kernel_rfl, c0 := by kernel_rfl, c2 := by kernel_rfl,
    c3 := by kernel_rfl, c4 := by kernel_rfl, c5 := by kernel_rfl, c9 := by kernel_rfl,
    c20 := by kernel_rfl, c21 := by kernel_rfl, c37 := by kernel_rfl, c46 := by kernel_rfl,
    c51 := by kernel_rfl, c53 := by kernel_rfl, c75 := by kernel_rfl, c76 := by kernel_rfl,
    c80 := by kernel_rfl, c85 := by kernel_rfl, c127 := by kernel_rfl, c143 := by kernel_rfl,
    c145 := by kernel_rfl, c167 := by kernel_rfl, c168 := by kernel_rfl, c171 := by kernel_rfl,
    c173 := by kernel_rfl, c175 := by kernel_rfl, c210 := by kernel_rfl, c212 := by kernel_rfl,
    c213 := by kernel_rfl, c232 := by kernel_rfl, c233 := by kernel_rfl }
def Tryz.laysString_ren : Go.Shelf.Ren :=
  {
    f := fun x =>
      match x with
      | 169 => 53
      | n => n,
    t := fun x =>
      match x with
      | 70 => 71
      | 9 => 9
      | 0 => 0
      | 72 => 73
      | 37 => 68
      | 127 => 87
      | 3 => 3
      | 5 => 5
      | n => n,
    g := fun x =>
      have n := x;
      n }
theorem Tryz.laysString : Lays.n169 Tryz.prog Tryz.laysString_ren :=
  { mixed := by kernel_rfl, f169 := Eq.trans Tryz.func53 (congrArg some (Eq.refl (Body.n169 Tryz.laysString_ren))),
    t0 := Tryz.underlying0, a0 := Tryz.isAgg0, z0 := Tryz.sizeOf0, v0 := Tryz.zeroValue0, t3 := Tryz.underlying3,
    a3 := Tryz.isAgg3, z3 := Tryz.sizeOf3, v3 := Tryz.zeroValue3, t9 := Tryz.underlying9, a9 := Tryz.isAgg9,
    z9 := Tryz.sizeOf9, v9 := Tryz.zeroValue9, t37 := Tryz.underlying68, a37 := Tryz.isAgg68, z37 := Tryz.sizeOf68,
    v37 := Tryz.zeroValue68, t70 := Tryz.underlying71, a70 := Tryz.isAgg71, z70 := Tryz.sizeOf71, v70 := Tryz.zeroValue71,
    t72 := Tryz.underlying73, a72 := Tryz.isAgg73, z72 := Tryz.sizeOf73, v72 := Tryz.zeroValue73,
    t127 := Tryz.underlying87, a127 := Tryz.isAgg87, z127 := Tryz.sizeOf87, v127 := Tryz.zeroValue87 }
def Tryz.laysGrow_ren : Go.Shelf.Ren :=
  {
    f := fun x =>
      match x with
      | 241 => 63
      | 277 => 71
      | n => n,
    t := fun x =>
      match x with
      | 70 => 71
      | 3 => 3
      | 0 => 0
      | 72 => 73
      | 37 => 68
      | 5 => 5
      | n => n,
    g := fun x =>
      have n := x;
      n }
theorem Tryz.laysGrow : Lays.n241 Tryz.prog Tryz.laysGrow_ren :=
  { mixed := by kernel_rfl, f241 := Eq.trans Tryz.func63 (congrArg some (Eq.refl (Body.n241 Tryz.laysGrow_ren))),
    f277 := Eq.trans Tryz.func71 (congrArg some (Eq.refl (Body.n277 Tryz.laysGrow_ren))), t0 := Tryz.underlying0,
    a0 := Tryz.isAgg0, z0 := Tryz.sizeOf0, v0 := Tryz.zeroValue0, t3 := Tryz.underlying3, a3 := Tryz.isAgg3,
    z3 := Tryz.sizeOf3, v3 := Tryz.zeroValue3, t37 := Tryz.underlying68, a37 := Tryz.isAgg68, z37 := Tryz.sizeOf68,
    v37 := Tryz.zeroValue68, t70 := Tryz.underlying71, a70 := Tryz.isAgg71, z70 := Tryz.sizeOf71, v70 := Tryz.zeroValue71,
    t72 := Tryz.underlying73, a72 := Tryz.isAgg73, z72 := Tryz.sizeOf73, v72 := Tryz.zeroValue73 }
def Tryz.laysLen_ren : Go.Shelf.Ren :=
  {
    f := fun x =>
      match x with
      | 170 => 60
      | n => n,
    t := fun x =>
      match x with
      | 70 => 71
      | 3 => 3
      | 0 => 0
      | 72 => 73
      | 37 => 68
      | 5 => 5
      | n => n,
    g := fun x =>
      have n := x;
      n }
theorem Tryz.laysLen : Lays.n170 Tryz.prog Tryz.laysLen_ren :=
  { mixed := by kernel_rfl, f170 := Eq.trans Tryz.func60 (congrArg some (Eq.refl (Body.n170 Tryz.laysLen_ren))),
    t0 := Tryz.underlying0, a0 := Tryz.isAgg0, z0 := Tryz.sizeOf0, v0 := Tryz.zeroValue0, t3 := Tryz.underlying3,
    a3 := Tryz.isAgg3, z3 := Tryz.sizeOf3, v3 := Tryz.zeroValue3, t37 := Tryz.underlying68, a37 := Tryz.isAgg68,
    z37 := Tryz.sizeOf68, v37 := Tryz.zeroValue68, t70 := Tryz.underlying71, a70 := Tryz.isAgg71, z70 := Tryz.sizeOf71,
    v70 := Tryz.zeroValue71, t72 := Tryz.underlying73, a72 := Tryz.isAgg73, z72 := Tryz.sizeOf73,
    v72 := Tryz.zeroValue73 }
end Go.Proofs


set_option maxRecDepth 100000
namespace Go.Proofs
open Go.Shelf Go.RowKit
theorem ri_cut (s sep : ByteArray) (m : Int) (w : World) (hs : s.size < 4294967281) (hm : w.cell? ⟨0, 0, none⟩ = some (.int .i64 m)) :
    Calls Tryz.prog 64 #[.string s, .string sep] w fun e w' => e = .returned (.tuple #[.string ⟨(Lib.cut s.data.toList sep.data.toList).1.toArray⟩, .string ⟨(Lib.cut s.data.toList sep.data.toList).2.1.toArray⟩, .bool (Lib.cut s.data.toList sep.data.toList).2.2]) ∧ ∃ n, w' = w.drewN n := Any.strings_Cut Tryz.laysCut s sep m w hs hm
theorem ri_ok (s : ByteArray) (hmax : s.size ≤ 9223372036854775806) (v : Int) (h : Lib.atoiAll s.data.toList = .ok v) (w : World) :
    Calls Tryz.prog 65 #[.string s] w fun e w' => e = .returned (.tuple #[.int .i64 v, .nilIface]) ∧ (w' = w ∨ ∃ t, w' = Lib.bytesWorld w 5 t) := Any.strconv_Atoi_ok Tryz.laysAtoi s hmax v h w
theorem ri_itoa (n : Int) (h0 : -9223372036854775808 ≤ n) (h1 : n ≤ 9223372036854775807) (w : World) (htab : Lib.TabIs Tryz.prog w "internal/strconv.uint64pow10" .u64 Lib.pow10Tab) :
    Calls Tryz.prog 55 #[.int .i64 n] w fun e w' => e = .returned (.string ⟨(Lib.itoa n).toArray⟩) ∧ ∃ k os, w' = Sort.grow (w.drewN k) os := Any.strconv_Itoa Tryz.laysItoa n h0 h1 w htab
theorem ri_none (s : ByteArray) (m : Int) (w : World) (hm : w.cell? ⟨0, 0, none⟩ = some (.int .i64 m)) (x y : List UInt8) (hc : Lib.cut (s.data.toList.take (min (s.size : Int) 21).toNat) [59] = (x, y, false)) :
    Calls Tryz.prog 54 #[.string s] w fun e w' => e = .returned (.tuple #[.int .i64 0, .string ⟨#[]⟩, .bool false]) ∧ ∃ n, w' = w.drewN n := by
  go_enter Tryz.func54, Tryz.ntmps54
  go_wp2_with (go_at_call 64; refine (ri_cut _ _ m _ ?_ hm).mono ?_)
  · simp only [ByteArray.size_extract]; omega
  rintro e w' rfl n rfl
  go_wp2
  go_ret3
  exact ⟨rfl, _, rfl⟩
theorem ri_yes (s : ByteArray) (m : Int) (w : World) (hm : w.cell? ⟨0, 0, none⟩ = some (.int .i64 m)) (x y : List UInt8) (hc : Lib.cut (s.data.toList.take (min (s.size : Int) 21).toNat) [59] = (x, y, true)) (hx : x.length ≤ 20) (hxs : x.length + 1 ≤ s.size) (v : Int) (hv : Lib.atoiAll x = .ok v)
    (h0 : -9223372036854775808 ≤ v) (h1 : v ≤ 9223372036854775807) (htab : ∀ w', Below w.heap.size w w' → Lib.TabIs Tryz.prog w' "internal/strconv.uint64pow10" .u64 Lib.pow10Tab) :
    Calls Tryz.prog 54 #[.string s] w fun e w' => e = .returned (if Lib.itoa v = x then .tuple #[.int .i64 v, .string ⟨(s.data.toList.drop (x.length + 1)).toArray⟩, .bool true] else .tuple #[.int .i64 0, .string ⟨#[]⟩, .bool false]) ∧ Below w.heap.size w w' := by
  go_enter Tryz.func54, Tryz.ntmps54
  go_wp2_with (go_at_call 64; refine (ri_cut _ _ m _ ?_ hm).mono ?_)
  · simp only [ByteArray.size_extract]; omega
  rintro e w' rfl n rfl
  go_wp2_with (go_at_call 65; refine (ri_ok _ ?_ v hv _).mono ?_)
  · show x.toArray.size ≤ _
    simp; omega
  rintro e w' ⟨rfl, hw⟩
  have hwb : Below w.heap.size w w' := by
    rcases hw with rfl | ⟨t, rfl⟩
    · exact ⟨rfl, rfl, rfl, Nat.le_refl _, fun _ _ => rfl⟩
    · have h9 := Lib.bytesWorld_below (w.drewN n) 5 t
      exact Below.trans (show Below w.heap.size w (w.drewN n) from ⟨rfl, rfl, rfl, Nat.le_refl _, fun _ _ => rfl⟩) h9
  go_wp2_with (go_at_call 55; refine (ri_itoa v h0 h1 _ ?_).mono ?_)
  · exact htab _ hwb
  rintro e w'' ⟨rfl, k, os, rfl⟩
  have hb2 : Below w.heap.size w (Sort.grow (w'.drewN k) os) := hwb.trans ⟨rfl, rfl, rfl, by show w'.heap.size ≤ (w'.heap ++ os).size; rw [Array.size_append]; omega, fun b hb => by
    show (w'.heap ++ os)[b]? = _
    exact Array.getElem?_append_left (Nat.lt_of_lt_of_le hb hwb.size)⟩
  generalize Sort.grow (w'.drewN k) os = w2 at hb2
  have hsz : (⟨x.toArray⟩ : ByteArray).size = x.length := by show x.toArray.size = _; simp
  have hwr : IntKind.i64.wrap ((x.length : Int) + 1) = (x.length : Int) + 1 := by unfold IntKind.wrap; simp [IntKind.signed, IntKind.bits]; omega
  have hsl : (x.length : Int) + 1 ≤ s.size := by omega
  by_cases hi : Lib.itoa v = x
  · subst hi
    go_wp2
    go_quiet (fail)
    go_wp2
    go_ret3
    refine ⟨?_, hb2.trans ⟨rfl, rfl, rfl, Nat.le_refl _, fun _ _ => rfl⟩⟩
    have hex : s.extract ((Lib.itoa v).length + 1) s.size = ⟨(s.data.toList.drop ((Lib.itoa v).length + 1)).toArray⟩ := by
      have hl : s.size = s.data.toList.length := by rw [Array.length_toList]; rfl
      apply ByteArray.ext
      apply Array.ext'
      rw [ByteArray.data_extract, hl, Array.toList_extract, List.extract_eq_take_drop]
      exact List.take_of_length_le (by rw [List.length_drop]; omega)
    first
      | (rw [← hex]; rfl)
      | (rw [if_pos rfl, ← hex]; rfl)
  · have hne : ¬ (⟨(Lib.itoa v).toArray⟩ : ByteArray) = ⟨x.toArray⟩ := fun e => hi (by simpa using congrArg (fun b : ByteArray => b.data.toList) e)
    go_wp2
    · go_ret3
      exact ⟨rfl, hb2⟩
    · exfalso
      simp_all
theorem ri_fail (s : ByteArray) (hlim : s.size ≤ 281474976710656) (h : ∀ v, Lib.atoiAll s.data.toList ≠ .ok v) (w : World)
    (ev1 ev2 : Value) (h1 : w.cell? ⟨Tryz.laysAtoi_ren.g 15, 0, none⟩ = some ev1) (he1 : ev1 = .nilIface ∨ ∃ te pe, ev1 = .iface te pe) (h2 : w.cell? ⟨Tryz.laysAtoi_ren.g 16, 0, none⟩ = some ev2) (he2 : ev2 = .nilIface ∨ ∃ te pe, ev2 = .iface te pe) :
    Calls Tryz.prog 65 #[.string s] w fun e w' => ∃ n N, e = .returned (.tuple #[.int .i64 n, .iface (Tryz.laysAtoi_ren.t 168) (.pointer (some ⟨N, 0, none⟩))]) ∧ Below w.heap.size w w' := by
  cases hx : Lib.atoiAll s.data.toList with
  | ok v => exact absurd hx (h v)
  | range =>
    refine (Any.strconv_Atoi_range Tryz.laysAtoi s hlim hx ev2 w h2 he2).mono ?_
    rintro e w' ⟨N, rfl, -, -, hb⟩
    exact ⟨_, N, rfl, hb⟩
  | _ =>
    refine (Any.strconv_Atoi_syntax Tryz.laysAtoi s hlim hx ev1 w h1 he1).mono ?_
    rintro e w' ⟨N, rfl, -, -, hb⟩
    exact ⟨_, N, rfl, hb⟩
theorem ri_bad (s : ByteArray) (m : Int) (w : World) (hm : w.cell? ⟨0, 0, none⟩ = some (.int .i64 m)) (x y : List UInt8) (hc : Lib.cut (s.data.toList.take (min (s.size : Int) 21).toNat) [59] = (x, y, true)) (hx : x.length ≤ 20)
    (h : ∀ v, Lib.atoiAll x ≠ .ok v)
    (ev1 ev2 : Value) (h1 : w.cell? ⟨Tryz.laysAtoi_ren.g 15, 0, none⟩ = some ev1) (he1 : ev1 = .nilIface ∨ ∃ te pe, ev1 = .iface te pe) (h2 : w.cell? ⟨Tryz.laysAtoi_ren.g 16, 0, none⟩ = some ev2) (he2 : ev2 = .nilIface ∨ ∃ te pe, ev2 = .iface te pe) :
    Calls Tryz.prog 54 #[.string s] w fun e w' => e = .returned (.tuple #[.int .i64 0, .string ⟨#[]⟩, .bool false]) ∧ Below w.heap.size w w' := by
  go_enter Tryz.func54, Tryz.ntmps54
  go_wp2_with (go_at_call 64; refine (ri_cut _ _ m _ ?_ hm).mono ?_)
  · simp only [ByteArray.size_extract]; omega
  rintro e w' rfl n rfl
  have hf := ri_fail ⟨x.toArray⟩ (by show x.toArray.size ≤ _; simp; omega) (show ∀ v, Lib.atoiAll (⟨x.toArray⟩ : ByteArray).data.toList ≠ .ok v from h) (w.drewN n) ev1 ev2 h1 he1 h2 he2
  go_wp2_with (go_at_call 65; refine hf.mono ?_)
  rintro e w' ⟨nn, N, rfl, hb⟩
  go_wp2
  go_ret3
  exact ⟨rfl, Below.trans (show Below w.heap.size w (w.drewN n) from ⟨rfl, rfl, rfl, Nat.le_refl _, fun _ _ => rfl⟩) hb⟩
end Go.Proofs


set_option maxRecDepth 10000
namespace Go.Wire
open Go.Lib
theorem index_semi : ∀ t : Txt, index t [59] = if (59 : UInt8) ∈ t then ((t.takeWhile fun c => decide (c ≠ 59)).length : Int) else -1
  | [] => rfl
  | b :: l => by
    have ih := index_semi l
    rw [index]
    by_cases hb : b = 59
    · subst hb
      have e : ([59] : List UInt8).isPrefixOf (59 :: l) = true := by simp [List.isPrefixOf]
      rw [e]
      simp
    · have e : ([59] : List UInt8).isPrefixOf (b :: l) = false := by
        simp only [List.isPrefixOf, Bool.and_true, beq_eq_false_iff_ne]
        exact fun h => hb h.symm
      rw [e, ih]
      have hm : (59 : UInt8) ∈ b :: l ↔ 59 ∈ l := ⟨fun h => (List.mem_cons.1 h).resolve_left (fun h => hb h.symm), List.mem_cons_of_mem _⟩
      by_cases h : (59 : UInt8) ∈ l
      · rw [if_pos h, if_pos (hm.2 h), List.takeWhile_cons_of_pos (by simpa using hb)]
        have : ¬ (((l.takeWhile fun c => decide (c ≠ 59)).length : Int) == -1) = true := by
          simp only [beq_iff_eq]; omega
        simp only [Bool.false_eq_true, if_false, this, List.length_cons]
        push_cast; rfl
      · rw [if_neg h, if_neg (fun h2 => h (hm.1 h2))]
        rfl
theorem cut_semi (t : Txt) : (cut t [59]).2.2 = decide ((59 : UInt8) ∈ t) ∧ ((59 : UInt8) ∈ t → (cut t [59]).1 = t.takeWhile fun c => decide (c ≠ 59)) := by
  unfold cut
  rw [index_semi]
  by_cases h : (59 : UInt8) ∈ t
  · rw [if_pos h, if_pos (by omega)]
    refine ⟨by simp [h], fun _ => ?_⟩
    obtain ⟨r, hr⟩ := cut_at h
    generalize (t.takeWhile fun c => decide (c ≠ 59)) = x at hr ⊢
    show t.take (x.length : Int).toNat = x
    rw [hr, Int.toNat_natCast]
    simp
  · rw [if_neg h, if_neg (by omega)]
    exact ⟨by simp [h], fun h2 => absurd h2 h⟩
end Go.Wire

