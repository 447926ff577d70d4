/- A part of the proof; the last text states what is proved. -/
import Derived.Test.YtefmlddbkmgliaaP3
import Derived.Test.YtefmlddbkmgliaaProg
import Derived.IntWalk
import Derived.Deep.OwnRows
import Derived.Shelf.Slices.Reverse
import Derived.Lib.OwnBridge
import Derived.WalkKit
import Derived.BigRegion
import Derived.Deep.RegionLaw
import Derived.Maps.AppendAt
import Derived.Lib.Builder
import Derived.Shelf.Slices.CompactI
import Derived.Shelf.Sort.Plain
set_option linter.unusedVariables false
set_option linter.unusedSimpArgs false
set_option maxRecDepth 100000
namespace Go.Abs
open Go.Proofs
theorem uu {a b : AQ} (h : a = b) (P ts os Q) : awl P a Q ts os = awl P b Q ts os := h ▸ rfl
theorem vv {α : Type} {a b : α} (h : a = b) : a = b := h
def f9r1 : List AI := [⟨none, (.mov 44 (.t 0))⟩, ⟨none, (.len 45 (.t 44))⟩, ⟨none, (.bin 46 .leq (.t 45) (.v (.k (.c (.int .i64 20)))))⟩, ⟨none, (.mov 47 (.t 46))⟩, ⟨(some (47, false)), (.mov 48 (.t 0))⟩, ⟨(some (47, false)), (.len 49 (.t 48))⟩, ⟨(some (47, false)), (.bin 50 .gtr (.t 49) (.v (.k (.c (.int .i64 100)))))⟩, ⟨(some (47, false)), (.mov 51 (.t 50))⟩, ⟨(some (51, true)), (.mov 52 (.t 0))⟩, ⟨(some (51, true)), (.len 53 (.t 52))⟩, ⟨(some (51, true)), (.bin 54 .leq (.t 53) (.v (.k (.c (.int .i64 110)))))⟩, ⟨(some (47, false)), (.pick 55 (.t 51) (.t 54) (.v (.k (.c (.bool false)))))⟩, ⟨none, (.pick 56 (.t 47) (.v (.k (.c (.bool true)))) (.t 55))⟩, ⟨none, (.mov 2 (.t 56))⟩]
def f9b2 : AQ := (.seq (.region f9r1) .ret)
def f9r3 : List AI := [⟨none, (.mov 12 (.t 3))⟩, ⟨none, (.bin 13 .add (.t 12) (.v (.k (.c (.int .i64 1)))))⟩, ⟨none, (.mov 3 (.t 13))⟩]
def f9r4 : List AI := [⟨none, (.mov 2 (.v (.k (.c (.bool false)))))⟩]
def f9b5 : AQ := (.seq (.region f9r4) .ret)
def f9b6 : AQ := (.cond (.t 43) f9b5 .skip)
def f9r7 : List AI := [⟨none, (.mov 14 (.t 0))⟩, ⟨none, (.mov 15 (.t 3))⟩, ⟨none, (.iaddr 16 6 (.t 14) (.t 15))⟩, ⟨none, (.faddr 17 0 (.t 16))⟩, ⟨none, (.load 18 1 false (.t 17))⟩, ⟨none, (.call (some 19) 26 [(.t 18)])⟩, ⟨none, (.mov 20 (.t 19))⟩, ⟨(some (20, true)), (.mov 21 (.t 0))⟩, ⟨(some (20, true)), (.mov 22 (.t 3))⟩, ⟨(some (20, true)), (.iaddr 23 6 (.t 21) (.t 22))⟩, ⟨(some (20, true)), (.faddr 24 0 (.t 23))⟩, ⟨(some (20, true)), (.load 25 1 false (.t 24))⟩, ⟨(some (20, true)), (.bin 26 .geq (.t 25) (.v (.k (.c (.int .i64 6)))))⟩, ⟨none, (.pick 27 (.t 20) (.t 26) (.v (.k (.c (.bool false)))))⟩, ⟨none, (.mov 28 (.t 27))⟩, ⟨(some (28, false)), (.mov 29 (.t 0))⟩, ⟨(some (28, false)), (.mov 30 (.t 3))⟩, ⟨(some (28, false)), (.iaddr 31 6 (.t 29) (.t 30))⟩, ⟨(some (28, false)), (.faddr 32 1 (.t 31))⟩, ⟨(some (28, false)), (.load 33 1 false (.t 32))⟩, ⟨(some (28, false)), (.call (some 34) 26 [(.t 33)])⟩, ⟨(some (28, false)), (.mov 35 (.t 34))⟩, ⟨(some (35, true)), (.mov 36 (.t 0))⟩, ⟨(some (35, true)), (.mov 37 (.t 3))⟩, ⟨(some (35, true)), (.iaddr 38 6 (.t 36) (.t 37))⟩, ⟨(some (35, true)), (.faddr 39 1 (.t 38))⟩, ⟨(some (35, true)), (.load 40 1 false (.t 39))⟩, ⟨(some (35, true)), (.bin 41 .geq (.t 40) (.v (.k (.c (.int .i64 6)))))⟩, ⟨(some (28, false)), (.pick 42 (.t 35) (.t 41) (.v (.k (.c (.bool false)))))⟩, ⟨none, (.pick 43 (.t 28) (.v (.k (.c (.bool true)))) (.t 42))⟩]
def f9b8 : AQ := (.seq (.region f9r7) f9b6)
def f9b9 : AQ := (.block 1 f9b8)
def f9b10 : AQ := (.seq f9b9 (.region f9r3))
def f9b11 : AQ := (.cond (.t 11) .skip (.exit 0))
def f9r12 : List AI := [⟨none, (.mov 4 (.t 3))⟩, ⟨none, (.mov 5 (.t 0))⟩, ⟨none, (.len 6 (.t 5))⟩, ⟨none, (.bin 7 .lss (.t 4) (.t 6))⟩, ⟨none, (.mov 8 (.t 7))⟩, ⟨(some (8, true)), (.mov 9 (.t 3))⟩, ⟨(some (8, true)), (.bin 10 .lss (.t 9) (.v (.k (.c (.int .i64 110)))))⟩, ⟨none, (.pick 11 (.t 8) (.t 10) (.v (.k (.c (.bool false)))))⟩]
def f9b13 : AQ := (.seq (.region f9r12) f9b11)
def f9b14 : AQ := (.seq f9b13 f9b10)
def f9l15 : AQ := .loop [0, 3] [] f9b14
def f9b16 : AQ := (.block 0 f9l15)
def f9r17 : List AI := [⟨none, (.mov 3 (.v (.k (.c (.int .i64 0)))))⟩]
def f9b18 : AQ := (.seq (.region f9r17) f9b16)
def f9b19 : AQ := (.seq f9b18 f9b2)
def f9r20 : List AI := [⟨none, (.mov 2 (.v (.k (.c (.bool false)))))⟩]
def f9b21 : AQ := (.seq (.region f9r20) f9b19)
def f9 : AQ := f9b21
theorem hf9 : cFunc Try.prog 9 = some ⟨57, f9.erase, [(RX.t 2)]⟩ := by kernel_rfl
theorem okf9 : f9.ok = true := by kernel_rfl
def f10r1 : List AI := [⟨none, (.mov 2 (.v (.k (.c (.int .i64 0)))))⟩]
def f10b2 : AQ := (.seq (.region f10r1) .ret)
def f10r3 : List AI := [⟨none, (.bin 95 .add (.t 10) (.v (.k (.c (.int .i64 1)))))⟩, ⟨none, (.mov 10 (.t 95))⟩]
def f10r4 : List AI := [⟨none, (.mov 2 (.v (.k (.c (.int .i64 2)))))⟩]
def f10b5 : AQ := (.seq (.region f10r4) .ret)
def f10b6 : AQ := (.cond (.t 94) f10b5 .skip)
def f10r7 : List AI := [⟨none, (.faddr 64 5 (.t 4))⟩, ⟨none, (.load 65 1 false (.t 64))⟩, ⟨none, (.bin 66 .lss (.t 65) (.v (.k (.c (.int .i64 0)))))⟩, ⟨none, (.mov 67 (.t 66))⟩, ⟨(some (67, false)), (.faddr 68 5 (.t 4))⟩, ⟨(some (67, false)), (.load 69 1 false (.t 68))⟩, ⟨(some (67, false)), (.mov 70 (.t 3))⟩, ⟨(some (67, false)), (.bin 71 .geq (.t 69) (.t 70))⟩, ⟨none, (.pick 72 (.t 67) (.v (.k (.c (.bool true)))) (.t 71))⟩, ⟨none, (.mov 73 (.t 72))⟩, ⟨(some (73, false)), (.mov 74 (.t 0))⟩, ⟨(some (73, false)), (.faddr 75 5 (.t 4))⟩, ⟨(some (73, false)), (.load 76 1 false (.t 75))⟩, ⟨(some (73, false)), (.iaddr 77 6 (.t 74) (.t 76))⟩, ⟨(some (73, false)), (.faddr 78 1 (.t 77))⟩, ⟨(some (73, false)), (.load 79 1 false (.t 78))⟩, ⟨(some (73, false)), (.faddr 80 0 (.t 4))⟩, ⟨(some (73, false)), (.load 81 1 false (.t 80))⟩, ⟨(some (73, false)), (.bin 82 .neq (.t 79) (.t 81))⟩, ⟨none, (.pick 83 (.t 73) (.v (.k (.c (.bool true)))) (.t 82))⟩, ⟨none, (.mov 84 (.t 83))⟩, ⟨(some (84, false)), (.mov 85 (.t 0))⟩, ⟨(some (84, false)), (.faddr 86 5 (.t 4))⟩, ⟨(some (84, false)), (.load 87 1 false (.t 86))⟩, ⟨(some (84, false)), (.iaddr 88 6 (.t 85) (.t 87))⟩, ⟨(some (84, false)), (.faddr 89 4 (.t 88))⟩, ⟨(some (84, false)), (.load 90 1 false (.t 89))⟩, ⟨(some (84, false)), (.faddr 91 3 (.t 4))⟩, ⟨(some (84, false)), (.load 92 1 false (.t 91))⟩, ⟨(some (84, false)), (.bin 93 .lss (.t 90) (.t 92))⟩, ⟨none, (.pick 94 (.t 84) (.v (.k (.c (.bool true)))) (.t 93))⟩]
def f10b8 : AQ := (.seq (.draw f10r7 [[], [0], [1], [2], [3], [4, 3], [3], [5, 6, 3], [3, 7], [8, 3], [9], [9], [11, 9], [10, 12, 9], [13, 9], [14, 9], [9], [16, 9], [15, 17, 9], [9, 18], [19, 9], [20], [20], [22, 20], [21, 23, 20], [24, 20], [25, 20], [20], [27, 20], [26, 28, 20], [20, 29]]) f10b6)
def f10b9 : AQ := (.cond (.t 63) (.exit 1) .skip)
def f10r10 : List AI := [⟨none, (.faddr 61 5 (.t 4))⟩, ⟨none, (.load 62 1 false (.t 61))⟩, ⟨none, (.bin 63 .eql (.t 62) (.v (.k (.c (.int .i64 (-1))))))⟩]
def f10b11 : AQ := (.seq (.region f10r10) f10b9)
def f10b12 : AQ := (.seq f10b11 f10b8)
def f10r13 : List AI := [⟨none, (.mov 2 (.v (.k (.c (.int .i64 1)))))⟩]
def f10b14 : AQ := (.seq (.region f10r13) .ret)
def f10r15 : List AI := [⟨none, (.mov 2 (.v (.k (.c (.int .i64 13)))))⟩]
def f10b16 : AQ := (.seq (.region f10r15) .ret)
def f10b17 : AQ := (.cond (.t 43) f10b16 .skip)
def f10r18 : List AI := [⟨none, (.faddr 44 3 (.t 4))⟩, ⟨none, (.load 45 1 false (.t 44))⟩, ⟨none, (.call (some 46) 28 [(.t 45)])⟩, ⟨none, (.un 47 .not (.t 46))⟩, ⟨none, (.mov 48 (.t 47))⟩, ⟨(some (48, false)), (.faddr 49 4 (.t 4))⟩, ⟨(some (48, false)), (.load 50 1 false (.t 49))⟩, ⟨(some (48, false)), (.call (some 51) 28 [(.t 50)])⟩, ⟨(some (48, false)), (.un 52 .not (.t 51))⟩, ⟨none, (.pick 53 (.t 48) (.v (.k (.c (.bool true)))) (.t 52))⟩, ⟨none, (.mov 54 (.t 53))⟩, ⟨(some (54, false)), (.faddr 55 3 (.t 4))⟩, ⟨(some (54, false)), (.load 56 1 false (.t 55))⟩, ⟨(some (54, false)), (.faddr 57 4 (.t 4))⟩, ⟨(some (54, false)), (.load 58 1 false (.t 57))⟩, ⟨(some (54, false)), (.bin 59 .geq (.t 56) (.t 58))⟩, ⟨none, (.pick 60 (.t 54) (.v (.k (.c (.bool true)))) (.t 59))⟩, ⟨none, (.mov 43 (.t 60))⟩]
def f10b19 : AQ := (.seq (.region f10r18) f10b17)
def f10b20 : AQ := (.cond (.t 15) f10b14 f10b19)
def f10r21 : List AI := [⟨none, (.faddr 16 0 (.t 4))⟩, ⟨none, (.load 17 1 false (.t 16))⟩, ⟨none, (.call (some 18) 27 [(.t 17)])⟩, ⟨none, (.un 19 .not (.t 18))⟩, ⟨none, (.mov 20 (.t 19))⟩, ⟨(some (20, false)), (.faddr 21 1 (.t 4))⟩, ⟨(some (20, false)), (.load 22 1 false (.t 21))⟩, ⟨(some (20, false)), (.call (some 23) 27 [(.t 22)])⟩, ⟨(some (20, false)), (.un 24 .not (.t 23))⟩, ⟨none, (.pick 25 (.t 20) (.v (.k (.c (.bool true)))) (.t 24))⟩, ⟨none, (.mov 26 (.t 25))⟩, ⟨(some (26, false)), (.faddr 27 0 (.t 4))⟩, ⟨(some (26, false)), (.load 28 1 false (.t 27))⟩, ⟨(some (26, false)), (.faddr 29 1 (.t 4))⟩, ⟨(some (26, false)), (.load 30 1 false (.t 29))⟩, ⟨(some (26, false)), (.bin 31 .eql (.t 28) (.t 30))⟩, ⟨none, (.pick 32 (.t 26) (.v (.k (.c (.bool true)))) (.t 31))⟩, ⟨none, (.mov 33 (.t 32))⟩, ⟨(some (33, false)), (.faddr 34 2 (.t 4))⟩, ⟨(some (33, false)), (.load 35 1 false (.t 34))⟩, ⟨(some (33, false)), (.bin 36 .lss (.t 35) (.v (.k (.c (.int .i64 1)))))⟩, ⟨none, (.pick 37 (.t 33) (.v (.k (.c (.bool true)))) (.t 36))⟩, ⟨none, (.mov 38 (.t 37))⟩, ⟨(some (38, false)), (.faddr 39 2 (.t 4))⟩, ⟨(some (38, false)), (.load 40 1 false (.t 39))⟩, ⟨(some (38, false)), (.bin 41 .gtr (.t 40) (.v (.k (.c (.int .i64 1099511627776)))))⟩, ⟨none, (.pick 42 (.t 38) (.v (.k (.c (.bool true)))) (.t 41))⟩, ⟨none, (.mov 15 (.t 42))⟩]
def f10b22 : AQ := (.seq (.region f10r21) f10b20)
def f10b23 : AQ := (.block 2 f10b22)
def f10b24 : AQ := (.seq f10b23 f10b12)
def f10r25 : List AI := [⟨none, (.mov 12 (.t 10))⟩, ⟨none, (.iaddr 13 6 (.t 8) (.t 10))⟩, ⟨none, (.load 14 6 true (.t 13))⟩, ⟨none, (.alloc 4 40 [(.int .i64 0), (.int .i64 0), (.int .i64 0), (.int .i64 0), (.int .i64 0), (.int .i64 0)])⟩, ⟨none, (.mov 3 (.t 12))⟩, ⟨none, (.store 6 (.t 4) (.t 14))⟩]
def f10b26 : AQ := (.seq (.region f10r25) f10b24)
def f10b27 : AQ := (.block 1 f10b26)
def f10b28 : AQ := (.seq f10b27 (.region f10r3))
def f10b29 : AQ := (.cond (.t 11) .skip (.exit 0))
def f10b30 : AQ := (.seq f10b29 f10b28)
def f10r31 : List AI := [⟨none, (.bin 11 .lss (.t 10) (.t 9))⟩]
def f10b32 : AQ := (.seq (.region f10r31) f10b30)
def f10l33 : AQ := .loop [0, 8, 9, 10] [] f10b32
def f10b34 : AQ := (.block 0 f10l33)
def f10r35 : List AI := [⟨none, (.mov 8 (.t 0))⟩, ⟨none, (.len 9 (.t 8))⟩, ⟨none, (.mov 10 (.v (.k (.c (.int .i64 0)))))⟩]
def f10b36 : AQ := (.seq (.region f10r35) f10b34)
def f10b37 : AQ := (.seq f10b36 f10b2)
def f10r38 : List AI := [⟨none, (.mov 2 (.v (.k (.c (.int .i64 6)))))⟩]
def f10b39 : AQ := (.seq (.region f10r38) .ret)
def f10b40 : AQ := (.cond (.t 7) f10b39 .skip)
def f10r41 : List AI := [⟨none, (.mov 5 (.t 0))⟩, ⟨none, (.len 6 (.t 5))⟩, ⟨none, (.bin 7 .gtr (.t 6) (.v (.k (.c (.int .i64 100)))))⟩]
def f10b42 : AQ := (.seq (.region f10r41) f10b40)
def f10b43 : AQ := (.seq f10b42 f10b37)
def f10r44 : List AI := [⟨none, (.mov 2 (.v (.k (.c (.int .i64 0)))))⟩]
def f10b45 : AQ := (.seq (.region f10r44) f10b43)
def f10 : AQ := f10b45
theorem hf10 : cFunc Try.prog 10 = some ⟨96, f10.erase, [(RX.t 2)]⟩ := by kernel_rfl
theorem okf10 : f10.ok = true := by kernel_rfl
def f11r1 : List AI := [⟨none, (.mov 2 (.v (.k (.c (.int .i64 0)))))⟩]
def f11b2 : AQ := (.seq (.region f11r1) .ret)
def f11r3 : List AI := [⟨none, (.mov 12 (.t 3))⟩, ⟨none, (.bin 13 .add (.t 12) (.v (.k (.c (.int .i64 1)))))⟩, ⟨none, (.mov 3 (.t 13))⟩]
def f11r4 : List AI := [⟨none, (.mov 2 (.v (.k (.c (.int .i64 2)))))⟩]
def f11b5 : AQ := (.seq (.region f11r4) .ret)
def f11b6 : AQ := (.cond (.t 93) f11b5 .skip)
def f11r7 : List AI := [⟨none, (.faddr 63 5 (.t 4))⟩, ⟨none, (.load 64 1 false (.t 63))⟩, ⟨none, (.bin 65 .lss (.t 64) (.v (.k (.c (.int .i64 0)))))⟩, ⟨none, (.mov 66 (.t 65))⟩, ⟨(some (66, false)), (.faddr 67 5 (.t 4))⟩, ⟨(some (66, false)), (.load 68 1 false (.t 67))⟩, ⟨(some (66, false)), (.mov 69 (.t 3))⟩, ⟨(some (66, false)), (.bin 70 .geq (.t 68) (.t 69))⟩, ⟨none, (.pick 71 (.t 66) (.v (.k (.c (.bool true)))) (.t 70))⟩, ⟨none, (.mov 72 (.t 71))⟩, ⟨(some (72, false)), (.mov 73 (.t 0))⟩, ⟨(some (72, false)), (.faddr 74 5 (.t 4))⟩, ⟨(some (72, false)), (.load 75 1 false (.t 74))⟩, ⟨(some (72, false)), (.iaddr 76 6 (.t 73) (.t 75))⟩, ⟨(some (72, false)), (.faddr 77 1 (.t 76))⟩, ⟨(some (72, false)), (.load 78 1 false (.t 77))⟩, ⟨(some (72, false)), (.faddr 79 0 (.t 4))⟩, ⟨(some (72, false)), (.load 80 1 false (.t 79))⟩, ⟨(some (72, false)), (.bin 81 .neq (.t 78) (.t 80))⟩, ⟨none, (.pick 82 (.t 72) (.v (.k (.c (.bool true)))) (.t 81))⟩, ⟨none, (.mov 83 (.t 82))⟩, ⟨(some (83, false)), (.mov 84 (.t 0))⟩, ⟨(some (83, false)), (.faddr 85 5 (.t 4))⟩, ⟨(some (83, false)), (.load 86 1 false (.t 85))⟩, ⟨(some (83, false)), (.iaddr 87 6 (.t 84) (.t 86))⟩, ⟨(some (83, false)), (.faddr 88 4 (.t 87))⟩, ⟨(some (83, false)), (.load 89 1 false (.t 88))⟩, ⟨(some (83, false)), (.faddr 90 3 (.t 4))⟩, ⟨(some (83, false)), (.load 91 1 false (.t 90))⟩, ⟨(some (83, false)), (.bin 92 .lss (.t 89) (.t 91))⟩, ⟨none, (.pick 93 (.t 83) (.v (.k (.c (.bool true)))) (.t 92))⟩]
def f11b8 : AQ := (.seq (.draw f11r7 [[], [0], [1], [2], [3], [4, 3], [3], [5, 6, 3], [3, 7], [8, 3], [9], [9], [11, 9], [10, 12, 9], [13, 9], [14, 9], [9], [16, 9], [15, 17, 9], [9, 18], [19, 9], [20], [20], [22, 20], [21, 23, 20], [24, 20], [25, 20], [20], [27, 20], [26, 28, 20], [20, 29]]) f11b6)
def f11b9 : AQ := (.cond (.t 62) f11b8 .skip)
def f11r10 : List AI := [⟨none, (.faddr 60 5 (.t 4))⟩, ⟨none, (.load 61 1 false (.t 60))⟩, ⟨none, (.bin 62 .neq (.t 61) (.v (.k (.c (.int .i64 (-1))))))⟩]
def f11b11 : AQ := (.seq (.region f11r10) f11b9)
def f11r12 : List AI := [⟨none, (.mov 2 (.v (.k (.c (.int .i64 13)))))⟩]
def f11b13 : AQ := (.seq (.region f11r12) .ret)
def f11b14 : AQ := (.cond (.t 59) f11b13 .skip)
def f11r15 : List AI := [⟨none, (.faddr 45 3 (.t 4))⟩, ⟨none, (.load 46 1 false (.t 45))⟩, ⟨none, (.bin 47 .lss (.t 46) (.v (.k (.c (.int .i64 0)))))⟩, ⟨none, (.mov 48 (.t 47))⟩, ⟨(some (48, false)), (.faddr 49 4 (.t 4))⟩, ⟨(some (48, false)), (.load 50 1 false (.t 49))⟩, ⟨(some (48, false)), (.bin 51 .gtr (.t 50) (.v (.k (.c (.int .i64 100000)))))⟩, ⟨none, (.pick 52 (.t 48) (.v (.k (.c (.bool true)))) (.t 51))⟩, ⟨none, (.mov 53 (.t 52))⟩, ⟨(some (53, false)), (.faddr 54 3 (.t 4))⟩, ⟨(some (53, false)), (.load 55 1 false (.t 54))⟩, ⟨(some (53, false)), (.faddr 56 4 (.t 4))⟩, ⟨(some (53, false)), (.load 57 1 false (.t 56))⟩, ⟨(some (53, false)), (.bin 58 .geq (.t 55) (.t 57))⟩, ⟨none, (.pick 59 (.t 53) (.v (.k (.c (.bool true)))) (.t 58))⟩]
def f11b16 : AQ := (.seq (.region f11r15) f11b14)
def f11b17 : AQ := (.seq f11b16 f11b11)
def f11r18 : List AI := [⟨none, (.mov 2 (.v (.k (.c (.int .i64 1)))))⟩]
def f11b19 : AQ := (.seq (.region f11r18) .ret)
def f11b20 : AQ := (.cond (.t 44) f11b19 .skip)
def f11r21 : List AI := [⟨none, (.faddr 18 0 (.t 4))⟩, ⟨none, (.load 19 1 false (.t 18))⟩, ⟨none, (.call (some 20) 26 [(.t 19)])⟩, ⟨none, (.un 21 .not (.t 20))⟩, ⟨none, (.mov 22 (.t 21))⟩, ⟨(some (22, false)), (.faddr 23 1 (.t 4))⟩, ⟨(some (22, false)), (.load 24 1 false (.t 23))⟩, ⟨(some (22, false)), (.call (some 25) 26 [(.t 24)])⟩, ⟨(some (22, false)), (.un 26 .not (.t 25))⟩, ⟨none, (.pick 27 (.t 22) (.v (.k (.c (.bool true)))) (.t 26))⟩, ⟨none, (.mov 28 (.t 27))⟩, ⟨(some (28, false)), (.faddr 29 0 (.t 4))⟩, ⟨(some (28, false)), (.load 30 1 false (.t 29))⟩, ⟨(some (28, false)), (.faddr 31 1 (.t 4))⟩, ⟨(some (28, false)), (.load 32 1 false (.t 31))⟩, ⟨(some (28, false)), (.bin 33 .eql (.t 30) (.t 32))⟩, ⟨none, (.pick 34 (.t 28) (.v (.k (.c (.bool true)))) (.t 33))⟩, ⟨none, (.mov 35 (.t 34))⟩, ⟨(some (35, false)), (.faddr 36 2 (.t 4))⟩, ⟨(some (35, false)), (.load 37 1 false (.t 36))⟩, ⟨(some (35, false)), (.bin 38 .lss (.t 37) (.v (.k (.c (.int .i64 1)))))⟩, ⟨none, (.pick 39 (.t 35) (.v (.k (.c (.bool true)))) (.t 38))⟩, ⟨none, (.mov 40 (.t 39))⟩, ⟨(some (40, false)), (.faddr 41 2 (.t 4))⟩, ⟨(some (40, false)), (.load 42 1 false (.t 41))⟩, ⟨(some (40, false)), (.bin 43 .gtr (.t 42) (.v (.k (.c (.int .i64 1099511627776)))))⟩, ⟨none, (.pick 44 (.t 40) (.v (.k (.c (.bool true)))) (.t 43))⟩]
def f11b22 : AQ := (.seq (.region f11r21) f11b20)
def f11b23 : AQ := (.seq f11b22 f11b17)
def f11r24 : List AI := [⟨none, (.mov 14 (.t 0))⟩, ⟨none, (.mov 15 (.t 3))⟩, ⟨none, (.iaddr 16 6 (.t 14) (.t 15))⟩, ⟨none, (.load 17 6 true (.t 16))⟩, ⟨none, (.alloc 4 40 [(.int .i64 0), (.int .i64 0), (.int .i64 0), (.int .i64 0), (.int .i64 0), (.int .i64 0)])⟩, ⟨none, (.store 6 (.t 4) (.t 17))⟩]
def f11b25 : AQ := (.seq (.region f11r24) f11b23)
def f11b26 : AQ := (.block 1 f11b25)
def f11b27 : AQ := (.seq f11b26 (.region f11r3))
def f11b28 : AQ := (.cond (.t 11) .skip (.exit 0))
def f11r29 : List AI := [⟨none, (.mov 8 (.t 3))⟩, ⟨none, (.mov 9 (.t 0))⟩, ⟨none, (.len 10 (.t 9))⟩, ⟨none, (.bin 11 .lss (.t 8) (.t 10))⟩]
def f11b30 : AQ := (.seq (.region f11r29) f11b28)
def f11b31 : AQ := (.seq f11b30 f11b27)
def f11l32 : AQ := .loop [0, 3] [] f11b31
def f11b33 : AQ := (.block 0 f11l32)
def f11r34 : List AI := [⟨none, (.mov 3 (.v (.k (.c (.int .i64 0)))))⟩]
def f11b35 : AQ := (.seq (.region f11r34) f11b33)
def f11b36 : AQ := (.seq f11b35 f11b2)
def f11r37 : List AI := [⟨none, (.mov 2 (.v (.k (.c (.int .i64 6)))))⟩]
def f11b38 : AQ := (.seq (.region f11r37) .ret)
def f11b39 : AQ := (.cond (.t 7) f11b38 .skip)
def f11r40 : List AI := [⟨none, (.mov 5 (.t 0))⟩, ⟨none, (.len 6 (.t 5))⟩, ⟨none, (.bin 7 .gtr (.t 6) (.v (.k (.c (.int .i64 100)))))⟩]
def f11b41 : AQ := (.seq (.region f11r40) f11b39)
def f11b42 : AQ := (.seq f11b41 f11b36)
def f11r43 : List AI := [⟨none, (.mov 2 (.v (.k (.c (.int .i64 0)))))⟩]
def f11b44 : AQ := (.seq (.region f11r43) f11b42)
def f11 : AQ := f11b44
theorem hf11 : cFunc Try.prog 11 = some ⟨94, f11.erase, [(RX.t 2)]⟩ := by kernel_rfl
theorem okf11 : f11.ok = true := by kernel_rfl
def f12r1 : List AI := [⟨none, (.mov 18 (.t 0))⟩, ⟨none, (.call (some 19) 29 [(.t 18)])⟩, ⟨none, (.mov 20 (.t 1))⟩, ⟨none, (.iaddr 21 1 (.t 19) (.t 20))⟩, ⟨none, (.load 22 1 false (.t 21))⟩, ⟨none, (.mov 4 (.t 22))⟩]
def f12b2 : AQ := (.seq (.region f12r1) (.frz 19 .ret))
def f12r3 : List AI := [⟨none, (.mov 4 (.v (.k (.c (.int .i64 0)))))⟩]
def f12b4 : AQ := (.seq (.region f12r3) .ret)
def f12b5 : AQ := (.cond (.t 17) f12b4 .skip)
def f12r6 : List AI := [⟨none, (.mov 5 (.t 0))⟩, ⟨none, (.call (some 6) 10 [(.t 5)])⟩, ⟨none, (.bin 7 .neq (.t 6) (.v (.k (.c (.int .i64 0)))))⟩, ⟨none, (.mov 8 (.t 7))⟩, ⟨(some (8, false)), (.mov 9 (.t 1))⟩, ⟨(some (8, false)), (.bin 10 .lss (.t 9) (.v (.k (.c (.int .i64 0)))))⟩, ⟨none, (.pick 11 (.t 8) (.v (.k (.c (.bool true)))) (.t 10))⟩, ⟨none, (.mov 12 (.t 11))⟩, ⟨(some (12, false)), (.mov 13 (.t 1))⟩, ⟨(some (12, false)), (.mov 14 (.t 0))⟩, ⟨(some (12, false)), (.len 15 (.t 14))⟩, ⟨(some (12, false)), (.bin 16 .geq (.t 13) (.t 15))⟩, ⟨none, (.pick 17 (.t 12) (.v (.k (.c (.bool true)))) (.t 16))⟩]
def f12b7 : AQ := (.seq (.region f12r6) f12b5)
def f12b8 : AQ := (.seq f12b7 f12b2)
def f12r9 : List AI := [⟨none, (.mov 4 (.v (.k (.c (.int .i64 0)))))⟩]
def f12b10 : AQ := (.seq (.region f12r9) f12b8)
def f12 : AQ := f12b10
theorem hf12 : cFunc Try.prog 12 = some ⟨23, f12.erase, [(RX.t 4)]⟩ := by kernel_rfl
theorem okf12 : f12.ok = true := by kernel_rfl
def f13r1 : List AI := [⟨none, (.mov 45 (.t 5))⟩, ⟨none, (.minmax 46 true (.v (.k (.c (.int .i64 0)))) [(.t 45)])⟩, ⟨none, (.mov 4 (.t 46))⟩]
def f13b2 : AQ := (.seq (.region f13r1) .ret)
def f13r3 : List AI := [⟨none, (.mov 29 (.t 6))⟩, ⟨none, (.bin 30 .add (.t 29) (.v (.k (.c (.int .i64 1)))))⟩, ⟨none, (.mov 6 (.t 30))⟩]
def f13r4 : List AI := [⟨none, (.mov 38 (.t 5))⟩, ⟨none, (.mov 39 (.t 0))⟩, ⟨none, (.mov 40 (.t 6))⟩, ⟨none, (.iaddr 41 6 (.t 39) (.t 40))⟩, ⟨none, (.faddr 42 2 (.t 41))⟩, ⟨none, (.load 43 1 false (.t 42))⟩, ⟨none, (.bin 44 .sub (.t 38) (.t 43))⟩, ⟨none, (.mov 5 (.t 44))⟩]
def f13b5 : AQ := (.cond (.t 37) (.region f13r4) .skip)
def f13r6 : List AI := [⟨none, (.mov 31 (.t 0))⟩, ⟨none, (.mov 32 (.t 6))⟩, ⟨none, (.iaddr 33 6 (.t 31) (.t 32))⟩, ⟨none, (.faddr 34 5 (.t 33))⟩, ⟨none, (.load 35 1 false (.t 34))⟩, ⟨none, (.mov 36 (.t 1))⟩, ⟨none, (.bin 37 .eql (.t 35) (.t 36))⟩]
def f13b7 : AQ := (.seq (.region f13r6) f13b5)
def f13b8 : AQ := (.block 1 f13b7)
def f13b9 : AQ := (.seq f13b8 (.region f13r3))
def f13b10 : AQ := (.cond (.t 28) .skip (.exit 0))
def f13r11 : List AI := [⟨none, (.mov 25 (.t 6))⟩, ⟨none, (.mov 26 (.t 0))⟩, ⟨none, (.len 27 (.t 26))⟩, ⟨none, (.bin 28 .lss (.t 25) (.t 27))⟩]
def f13b12 : AQ := (.seq (.region f13r11) f13b10)
def f13b13 : AQ := (.seq f13b12 f13b9)
def f13l14 : AQ := .loop [0, 1, 5, 6] [] f13b13
def f13b15 : AQ := (.block 0 f13l14)
def f13r16 : List AI := [⟨none, (.mov 6 (.v (.k (.c (.int .i64 0)))))⟩]
def f13b17 : AQ := (.seq (.region f13r16) f13b15)
def f13b18 : AQ := (.seq f13b17 f13b2)
def f13r19 : List AI := [⟨none, (.mov 20 (.t 0))⟩, ⟨none, (.mov 21 (.t 1))⟩, ⟨none, (.iaddr 22 6 (.t 20) (.t 21))⟩, ⟨none, (.faddr 23 2 (.t 22))⟩, ⟨none, (.load 24 1 false (.t 23))⟩, ⟨none, (.mov 5 (.t 24))⟩]
def f13b20 : AQ := (.seq (.region f13r19) f13b18)
def f13r21 : List AI := [⟨none, (.mov 4 (.v (.k (.c (.int .i64 0)))))⟩]
def f13b22 : AQ := (.seq (.region f13r21) .ret)
def f13b23 : AQ := (.cond (.t 19) f13b22 .skip)
def f13r24 : List AI := [⟨none, (.mov 7 (.t 0))⟩, ⟨none, (.call (some 8) 11 [(.t 7)])⟩, ⟨none, (.bin 9 .neq (.t 8) (.v (.k (.c (.int .i64 0)))))⟩, ⟨none, (.mov 10 (.t 9))⟩, ⟨(some (10, false)), (.mov 11 (.t 1))⟩, ⟨(some (10, false)), (.bin 12 .lss (.t 11) (.v (.k (.c (.int .i64 0)))))⟩, ⟨none, (.pick 13 (.t 10) (.v (.k (.c (.bool true)))) (.t 12))⟩, ⟨none, (.mov 14 (.t 13))⟩, ⟨(some (14, false)), (.mov 15 (.t 1))⟩, ⟨(some (14, false)), (.mov 16 (.t 0))⟩, ⟨(some (14, false)), (.len 17 (.t 16))⟩, ⟨(some (14, false)), (.bin 18 .geq (.t 15) (.t 17))⟩, ⟨none, (.pick 19 (.t 14) (.v (.k (.c (.bool true)))) (.t 18))⟩]
def f13b25 : AQ := (.seq (.region f13r24) f13b23)
def f13b26 : AQ := (.seq f13b25 f13b20)
def f13r27 : List AI := [⟨none, (.mov 4 (.v (.k (.c (.int .i64 0)))))⟩]
def f13b28 : AQ := (.seq (.region f13r27) f13b26)
def f13 : AQ := f13b28
theorem hf13 : cFunc Try.prog 13 = some ⟨47, f13.erase, [(RX.t 4)]⟩ := by kernel_rfl
theorem okf13 : f13.ok = true := by kernel_rfl
def f14r1 : List AI := [⟨none, (.mov 4 (.v (.k (.c (.bool true)))))⟩]
def f14b2 : AQ := (.seq (.region f14r1) .ret)
def f14r3 : List AI := [⟨none, (.mov 15 (.t 5))⟩, ⟨none, (.bin 16 .add (.t 15) (.v (.k (.c (.int .i64 1)))))⟩, ⟨none, (.mov 5 (.t 16))⟩]
def f14r4 : List AI := [⟨none, (.mov 4 (.v (.k (.c (.bool false)))))⟩]
def f14b5 : AQ := (.seq (.region f14r4) .ret)
def f14b6 : AQ := (.cond (.t 26) f14b5 .skip)
def f14r7 : List AI := [⟨none, (.mov 17 (.t 0))⟩, ⟨none, (.mov 18 (.t 5))⟩, ⟨none, (.iaddr 19 3 (.t 17) (.t 18))⟩, ⟨none, (.load 20 3 true (.t 19))⟩, ⟨none, (.mov 21 (.t 1))⟩, ⟨none, (.mov 22 (.t 5))⟩, ⟨none, (.iaddr 23 3 (.t 21) (.t 22))⟩, ⟨none, (.load 24 3 true (.t 23))⟩, ⟨none, (.call (some 25) 30 [(.t 20), (.t 24)])⟩, ⟨none, (.un 26 .not (.t 25))⟩]
def f14b8 : AQ := (.seq (.draw f14r7 [[], [], [0, 1], [2], [], [], [4, 5], [6], [3, 7], [8]]) f14b6)
def f14b9 : AQ := (.block 1 f14b8)
def f14b10 : AQ := (.seq f14b9 (.region f14r3))
def f14b11 : AQ := (.cond (.t 14) .skip (.exit 0))
def f14r12 : List AI := [⟨none, (.mov 11 (.t 5))⟩, ⟨none, (.mov 12 (.t 0))⟩, ⟨none, (.len 13 (.t 12))⟩, ⟨none, (.bin 14 .lss (.t 11) (.t 13))⟩]
def f14b13 : AQ := (.seq (.region f14r12) f14b11)
def f14b14 : AQ := (.seq f14b13 f14b10)
def f14l15 : AQ := .loop [0, 1, 5] [] f14b14
def f14b16 : AQ := (.block 0 f14l15)
def f14r17 : List AI := [⟨none, (.mov 5 (.v (.k (.c (.int .i64 0)))))⟩]
def f14b18 : AQ := (.seq (.region f14r17) f14b16)
def f14b19 : AQ := (.seq f14b18 f14b2)
def f14r20 : List AI := [⟨none, (.mov 4 (.v (.k (.c (.bool false)))))⟩]
def f14b21 : AQ := (.seq (.region f14r20) .ret)
def f14b22 : AQ := (.cond (.t 10) f14b21 .skip)
def f14r23 : List AI := [⟨none, (.mov 6 (.t 0))⟩, ⟨none, (.len 7 (.t 6))⟩, ⟨none, (.mov 8 (.t 1))⟩, ⟨none, (.len 9 (.t 8))⟩, ⟨none, (.bin 10 .neq (.t 7) (.t 9))⟩]
def f14b24 : AQ := (.seq (.region f14r23) f14b22)
def f14b25 : AQ := (.seq f14b24 f14b19)
def f14r26 : List AI := [⟨none, (.mov 4 (.v (.k (.c (.bool false)))))⟩]
def f14b27 : AQ := (.seq (.region f14r26) f14b25)
def f14 : AQ := f14b27
theorem hf14 : cFunc Try.prog 14 = some ⟨27, f14.erase, [(RX.t 4)]⟩ := by kernel_rfl
theorem okf14 : f14.ok = true := by kernel_rfl
def f15r1 : List AI := [⟨none, (.mov 98 (.t 5))⟩, ⟨none, (.mov 2 (.t 98))⟩]
def f15b2 : AQ := (.seq (.region f15r1) .ret)
def f15r3 : List AI := [⟨none, (.mov 96 (.t 5))⟩, ⟨none, (.call (some 97) 32 [(.t 96), (.v (.k (.c (.fn 33 []))))])⟩]
def f15b4 : AQ := (.seq (.region f15r3) f15b2)
def f15r5 : List AI := [⟨none, (.bin 95 .add (.t 22) (.v (.k (.c (.int .i64 1)))))⟩, ⟨none, (.mov 22 (.t 95))⟩]
def f15r6 : List AI := [⟨none, (.mov 91 (.t 5))⟩, ⟨none, (.load 92 3 true (.t 8))⟩, ⟨none, (.bslice 93 25 3 [(.list 0 (some true) []), (.list 0 (some true) []), (.int .i64 0)] 1 [(0, (.t 92))])⟩, ⟨none, (.append 94 25 3 56 (.t 91) (.t 93))⟩, ⟨none, (.mov 5 (.t 94))⟩]
def f15b7 : AQ := (.cond (.t 90) (.region f15r6) .skip)
def f15r8 : List AI := [⟨none, (.mov 90 (.t 9))⟩]
def f15b9 : AQ := (.seq (.region f15r8) f15b7)
def f15r10 : List AI := [⟨none, (.bin 89 .add (.t 43) (.v (.k (.c (.int .i64 1)))))⟩, ⟨none, (.mov 43 (.t 89))⟩]
def f15r11 : List AI := [⟨none, (.faddr 81 2 (.t 8))⟩, ⟨none, (.load 82 1 false (.t 81))⟩, ⟨none, (.mov 83 (.t 3))⟩, ⟨none, (.mov 84 (.t 11))⟩, ⟨none, (.iaddr 85 1 (.t 83) (.t 84))⟩, ⟨none, (.load 86 1 false (.t 85))⟩, ⟨none, (.bin 87 .add (.t 82) (.t 86))⟩, ⟨none, (.faddr 88 2 (.t 8))⟩, ⟨none, (.store 1 (.t 88) (.t 87))⟩]
def f15b12 : AQ := (.cond (.t 80) (.draw f15r11 [[], [0], [], [], [2, 3], [4], [1, 5], [0, 1, 2, 3, 4, 5, 6], [7, 6, 0, 1, 2, 3, 4, 5, 6]]) .skip)
def f15r13 : List AI := [⟨none, (.mov 76 (.t 10))⟩, ⟨none, (.mov 77 (.t 7))⟩, ⟨none, (.len 78 (.t 77))⟩, ⟨none, (.bin 79 .sub (.t 78) (.v (.k (.c (.int .i64 1)))))⟩, ⟨none, (.bin 80 .lss (.t 76) (.t 79))⟩]
def f15b14 : AQ := (.seq (.region f15r13) f15b12)
def f15r15 : List AI := [⟨none, (.faddr 66 1 (.t 8))⟩, ⟨none, (.load 67 1 false (.t 66))⟩, ⟨none, (.mov 68 (.t 0))⟩, ⟨none, (.mov 69 (.t 11))⟩, ⟨none, (.iaddr 70 6 (.t 68) (.t 69))⟩, ⟨none, (.faddr 71 0 (.t 70))⟩, ⟨none, (.load 72 1 false (.t 71))⟩, ⟨none, (.bslice 73 3 1 [(.int .i64 0)] 1 [(0, (.t 72))])⟩, ⟨none, (.append 74 3 1 8 (.t 67) (.t 73))⟩, ⟨none, (.faddr 75 1 (.t 8))⟩, ⟨none, (.store 1 (.t 75) (.t 74))⟩]
def f15b16 : AQ := (.seq (.draw f15r15 [[], [0], [], [], [2, 3], [4], [5], [6], [1, 7], [0, 1, 2, 3, 4, 5, 6, 7, 8], [9, 8, 8, 0, 1, 2, 3, 4, 5, 6, 7, 8]]) f15b14)
def f15r17 : List AI := [⟨none, (.mov 48 (.t 9))⟩, ⟨none, (.mov 49 (.t 48))⟩, ⟨(some (49, true)), (.mov 50 (.t 10))⟩, ⟨(some (49, true)), (.mov 51 (.t 7))⟩, ⟨(some (49, true)), (.len 52 (.t 51))⟩, ⟨(some (49, true)), (.bin 53 .sub (.t 52) (.v (.k (.c (.int .i64 1)))))⟩, ⟨(some (49, true)), (.bin 54 .eql (.t 50) (.t 53))⟩, ⟨(some (49, true)), (.mov 55 (.t 54))⟩, ⟨(some (55, false)), (.mov 56 (.t 4))⟩, ⟨(some (55, false)), (.mov 57 (.t 11))⟩, ⟨(some (55, false)), (.iaddr 58 1 (.t 56) (.t 57))⟩, ⟨(some (55, false)), (.load 59 1 false (.t 58))⟩, ⟨(some (55, false)), (.mov 60 (.t 7))⟩, ⟨(some (55, false)), (.iaddr 61 1 (.t 60) (.v (.k (.c (.int .i64 0)))))⟩, ⟨(some (55, false)), (.load 62 1 false (.t 61))⟩, ⟨(some (55, false)), (.bin 63 .lss (.t 59) (.t 62))⟩, ⟨(some (49, true)), (.pick 64 (.t 55) (.v (.k (.c (.bool true)))) (.t 63))⟩, ⟨none, (.pick 65 (.t 49) (.t 64) (.v (.k (.c (.bool false)))))⟩, ⟨none, (.mov 9 (.t 65))⟩]
def f15b18 : AQ := (.seq (.draw f15r17 [[], [0], [1], [1], [3, 1], [4, 1], [2, 5, 1], [6, 1, 1], [7], [7], [8, 9, 7], [10, 7], [7], [12, 7], [13, 7], [11, 14, 7], [7, 15, 1], [1, 16], [17, 7, 0, 1, 2, 3, 4, 5, 6, 7, 8, 9, 10, 11, 12, 13, 14, 15, 16, 17]]) f15b16)
def f15r19 : List AI := [⟨none, (.mov 45 (.t 43))⟩, ⟨none, (.iaddr 46 1 (.t 41) (.t 43))⟩, ⟨none, (.load 47 1 false (.t 46))⟩, ⟨none, (.mov 10 (.t 45))⟩, ⟨none, (.mov 11 (.t 47))⟩]
def f15b20 : AQ := (.seq (.region f15r19) f15b18)
def f15b21 : AQ := (.block 3 f15b20)
def f15b22 : AQ := (.seq f15b21 (.region f15r10))
def f15b23 : AQ := (.cond (.t 44) .skip (.exit 2))
def f15b24 : AQ := (.seq f15b23 f15b22)
def f15r25 : List AI := [⟨none, (.bin 44 .lss (.t 43) (.t 42))⟩]
def f15b26 : AQ := (.seq (.region f15r25) f15b24)
def f15l27 : AQ := .loop [0, 3, 4, 5, 7, 8, 9, 21, 22, 41, 42, 43] [5, 8, 16, 19, 27, 74, 94, 17000, 17001, 17002, 28000, 28001, 28002] f15b26
def f15b28 : AQ := (.block 2 f15l27)
def f15r29 : List AI := [⟨none, (.mov 41 (.t 7))⟩, ⟨none, (.len 42 (.t 41))⟩, ⟨none, (.mov 43 (.v (.k (.c (.int .i64 0)))))⟩]
def f15b30 : AQ := (.seq (.region f15r29) f15b28)
def f15b31 : AQ := (.seq f15b30 (.frz 74 f15b9))
def f15r32 : List AI := [⟨none, (.mov 9 (.v (.k (.c (.bool true)))))⟩]
def f15b33 : AQ := (.seq (.region f15r32) f15b31)
def f15r34 : List AI := [⟨none, (.mov 39 (.t 7))⟩, ⟨none, (.build 40 [(.list 0 (some true) []), (.list 0 (some true) []), (.int .i64 0)] [(0, (1, (.t 39)))])⟩, ⟨none, (.alloc 8 25 [(.list 0 (some true) []), (.list 0 (some true) []), (.int .i64 0)])⟩, ⟨none, (.store 3 (.t 8) (.t 40))⟩]
def f15b35 : AQ := (.seq (.region f15r34) f15b33)
def f15r36 : List AI := [⟨none, (.mov 33 (.t 4))⟩, ⟨none, (.mov 34 (.t 6))⟩, ⟨none, (.mov 35 (.t 7))⟩, ⟨none, (.iaddr 36 1 (.t 35) (.v (.k (.c (.int .i64 0)))))⟩, ⟨none, (.load 37 1 false (.t 36))⟩, ⟨none, (.iaddr 38 1 (.t 33) (.t 34))⟩, ⟨none, (.store 1 (.t 38) (.t 37))⟩]
def f15b37 : AQ := (.seq (.region f15r36) f15b35)
def f15b38 : AQ := (.cond (.t 32) (.exit 1) .skip)
def f15r39 : List AI := [⟨none, (.mov 31 (.t 7))⟩, ⟨none, (.nilcmp 32 false (.t 31))⟩]
def f15b40 : AQ := (.seq (.region f15r39) f15b38)
def f15b41 : AQ := (.seq f15b40 f15b37)
def f15r42 : List AI := [⟨none, (.mov 28 (.t 4))⟩, ⟨none, (.mov 29 (.t 6))⟩, ⟨none, (.iaddr 30 1 (.t 28) (.t 29))⟩, ⟨none, (.store 1 (.t 30) (.v (.k (.c (.int .i64 (-1))))))⟩]
def f15b43 : AQ := (.seq (.region f15r42) f15b41)
def f15r44 : List AI := [⟨none, (.mov 25 (.t 0))⟩, ⟨none, (.mov 26 (.t 6))⟩, ⟨none, (.call (some 27) 31 [(.t 25), (.t 26)])⟩, ⟨none, (.mov 7 (.t 27))⟩]
def f15b45 : AQ := (.seq (.region f15r44) (.frz 27 f15b43))
def f15r46 : List AI := [⟨none, (.mov 24 (.t 22))⟩, ⟨none, (.mov 6 (.t 24))⟩]
def f15b47 : AQ := (.seq (.region f15r46) f15b45)
def f15b48 : AQ := (.block 1 f15b47)
def f15b49 : AQ := (.seq f15b48 (.region f15r5))
def f15b50 : AQ := (.cond (.t 23) .skip (.exit 0))
def f15b51 : AQ := (.seq f15b50 f15b49)
def f15r52 : List AI := [⟨none, (.bin 23 .lss (.t 22) (.t 21))⟩]
def f15b53 : AQ := (.seq (.region f15r52) f15b51)
def f15l54 : AQ := .loop [0, 3, 4, 5, 21, 22] [5, 16, 19, 94, 17000, 17001, 17002] f15b53
def f15b55 : AQ := (.block 0 f15l54)
def f15r56 : List AI := [⟨none, (.mov 20 (.t 0))⟩, ⟨none, (.len 21 (.t 20))⟩, ⟨none, (.mov 22 (.v (.k (.c (.int .i64 0)))))⟩]
def f15b57 : AQ := (.seq (.region f15r56) f15b55)
def f15b58 : AQ := (.seq f15b57 f15b4)
def f15r59 : List AI := [⟨none, (.nilL 5 25 3)⟩]
def f15b60 : AQ := (.seq (.region f15r59) f15b58)
def f15r61 : List AI := [⟨none, (.mov 17 (.t 0))⟩, ⟨none, (.len 18 (.t 17))⟩, ⟨none, (.mkslice 19 3 1 8 [(.int .i64 0)] (.t 18) (.t 18))⟩, ⟨none, (.mov 4 (.t 19))⟩]
def f15b62 : AQ := (.seq (.region f15r61) f15b60)
def f15r63 : List AI := [⟨none, (.mov 15 (.t 0))⟩, ⟨none, (.call (some 16) 29 [(.t 15)])⟩, ⟨none, (.mov 3 (.t 16))⟩]
def f15b64 : AQ := (.seq (.region f15r63) (.frz 16 f15b62))
def f15r65 : List AI := [⟨none, (.nilL 2 25 3)⟩]
def f15b66 : AQ := (.seq (.region f15r65) .ret)
def f15b67 : AQ := (.cond (.t 14) f15b66 .skip)
def f15r68 : List AI := [⟨none, (.mov 12 (.t 0))⟩, ⟨none, (.call (some 13) 10 [(.t 12)])⟩, ⟨none, (.bin 14 .neq (.t 13) (.v (.k (.c (.int .i64 0)))))⟩]
def f15b69 : AQ := (.seq (.region f15r68) f15b67)
def f15b70 : AQ := (.seq f15b69 f15b64)
def f15r71 : List AI := [⟨none, (.nilL 2 25 3)⟩]
def f15b72 : AQ := (.seq (.region f15r71) f15b70)
def f15 : AQ := f15b72
theorem hf15 : cFunc Try.prog 15 = some ⟨99, f15.erase, [(RX.t 2)]⟩ := by kernel_rfl
theorem okf15 : f15.ok = true := by kernel_rfl
def f16r1 : List AI := [⟨none, (.mov 93 (.t 3))⟩, ⟨none, (.mov 2 (.t 93))⟩]
def f16b2 : AQ := (.seq (.region f16r1) .ret)
def f16r3 : List AI := [⟨none, (.mov 20 (.t 4))⟩, ⟨none, (.bin 21 .add (.t 20) (.v (.k (.c (.int .i64 1)))))⟩, ⟨none, (.mov 4 (.t 21))⟩]
def f16r4 : List AI := [⟨none, (.mov 26 (.t 5))⟩, ⟨none, (.bin 27 .add (.t 26) (.v (.k (.c (.int .i64 1)))))⟩, ⟨none, (.mov 5 (.t 27))⟩]
def f16r5 : List AI := [⟨none, (.mov 90 (.t 3))⟩, ⟨none, (.mov 91 (.t 6))⟩, ⟨none, (.append 92 25 3 56 (.t 90) (.t 91))⟩, ⟨none, (.mov 3 (.t 92))⟩]
def f16r6 : List AI := [⟨none, (.mov 35 (.t 7))⟩, ⟨none, (.bin 36 .add (.t 35) (.v (.k (.c (.int .i64 1)))))⟩, ⟨none, (.mov 7 (.t 36))⟩]
def f16r7 : List AI := [⟨none, (.mov 87 (.t 6))⟩, ⟨none, (.load 88 3 true (.t 9))⟩, ⟨none, (.call (some 89) 37 [(.t 87), (.t 88)])⟩, ⟨none, (.mov 6 (.t 89))⟩]
def f16r8 : List AI := [⟨none, (.mov 57 (.t 10))⟩, ⟨none, (.bin 58 .add (.t 57) (.v (.k (.c (.int .i64 1)))))⟩, ⟨none, (.mov 10 (.t 58))⟩]
def f16r9 : List AI := [⟨none, (.faddr 77 2 (.t 9))⟩, ⟨none, (.load 78 1 false (.t 77))⟩, ⟨none, (.mov 79 (.t 0))⟩, ⟨none, (.mov 80 (.t 8))⟩, ⟨none, (.mov 81 (.t 10))⟩, ⟨none, (.iaddr 82 1 (.t 80) (.t 81))⟩, ⟨none, (.load 83 1 false (.t 82))⟩, ⟨none, (.call (some 84) 13 [(.t 79), (.t 83)])⟩, ⟨none, (.bin 85 .add (.t 78) (.t 84))⟩, ⟨none, (.faddr 86 2 (.t 9))⟩, ⟨none, (.store 1 (.t 86) (.t 85))⟩]
def f16b10 : AQ := (.cond (.t 76) (.draw f16r9 [[], [0], [], [], [], [3, 4], [5], [2, 6], [1, 7], [0, 1, 2, 3, 4, 5, 6, 7, 8], [9, 8, 7, 0, 1, 2, 3, 4, 5, 6, 7, 8]]) .skip)
def f16r11 : List AI := [⟨none, (.mov 72 (.t 10))⟩, ⟨none, (.bin 73 .add (.t 72) (.v (.k (.c (.int .i64 1)))))⟩, ⟨none, (.mov 74 (.t 8))⟩, ⟨none, (.len 75 (.t 74))⟩, ⟨none, (.bin 76 .lss (.t 73) (.t 75))⟩]
def f16b12 : AQ := (.seq (.region f16r11) f16b10)
def f16r13 : List AI := [⟨none, (.faddr 59 1 (.t 9))⟩, ⟨none, (.load 60 1 false (.t 59))⟩, ⟨none, (.mov 61 (.t 0))⟩, ⟨none, (.mov 62 (.t 8))⟩, ⟨none, (.mov 63 (.t 10))⟩, ⟨none, (.iaddr 64 1 (.t 62) (.t 63))⟩, ⟨none, (.load 65 1 false (.t 64))⟩, ⟨none, (.iaddr 66 6 (.t 61) (.t 65))⟩, ⟨none, (.faddr 67 0 (.t 66))⟩, ⟨none, (.load 68 1 false (.t 67))⟩, ⟨none, (.bslice 69 3 1 [(.int .i64 0)] 1 [(0, (.t 68))])⟩, ⟨none, (.append 70 3 1 8 (.t 60) (.t 69))⟩, ⟨none, (.faddr 71 1 (.t 9))⟩, ⟨none, (.store 1 (.t 71) (.t 70))⟩]
def f16b14 : AQ := (.seq (.draw f16r13 [[], [0], [], [], [], [3, 4], [5], [2, 6], [7], [8], [9], [1, 10], [0, 1, 2, 3, 4, 5, 6, 7, 8, 9, 10, 11], [12, 11, 11, 0, 1, 2, 3, 4, 5, 6, 7, 8, 9, 10, 11]]) f16b12)
def f16b15 : AQ := (.block 7 f16b14)
def f16b16 : AQ := (.seq f16b15 (.region f16r8))
def f16b17 : AQ := (.cond (.t 56) .skip (.exit 6))
def f16r18 : List AI := [⟨none, (.mov 53 (.t 10))⟩, ⟨none, (.mov 54 (.t 8))⟩, ⟨none, (.len 55 (.t 54))⟩, ⟨none, (.bin 56 .lss (.t 53) (.t 55))⟩]
def f16b19 : AQ := (.seq (.region f16r18) f16b17)
def f16b20 : AQ := (.seq f16b19 f16b16)
def f16l21 : AQ := .loop [0, 3, 4, 5, 6, 7, 8, 9, 10] [9, 11, 28, 40, 70, 89, 92, 41000, 41001, 41002, 90000, 90001, 90002] f16b20
def f16b22 : AQ := (.block 6 f16l21)
def f16r23 : List AI := [⟨none, (.mov 10 (.v (.k (.c (.int .i64 0)))))⟩]
def f16b24 : AQ := (.seq (.region f16r23) f16b22)
def f16b25 : AQ := (.seq f16b24 (.frz 70 (.region f16r7)))
def f16r26 : List AI := [⟨none, (.mov 51 (.t 8))⟩, ⟨none, (.build 52 [(.list 0 (some true) []), (.list 0 (some true) []), (.int .i64 0)] [(0, (1, (.t 51)))])⟩, ⟨none, (.alloc 9 25 [(.list 0 (some true) []), (.list 0 (some true) []), (.int .i64 0)])⟩, ⟨none, (.store 3 (.t 9) (.t 52))⟩]
def f16b27 : AQ := (.seq (.region f16r26) f16b25)
def f16b28 : AQ := (.cond (.t 50) f16b27 .skip)
def f16r29 : List AI := [⟨none, (.mov 41 (.t 8))⟩, ⟨none, (.len 42 (.t 41))⟩, ⟨none, (.mov 43 (.t 4))⟩, ⟨none, (.bin 44 .eql (.t 42) (.t 43))⟩, ⟨none, (.mov 45 (.t 44))⟩, ⟨(some (45, true)), (.mov 46 (.t 0))⟩, ⟨(some (45, true)), (.mov 47 (.t 5))⟩, ⟨(some (45, true)), (.mov 48 (.t 7))⟩, ⟨(some (45, true)), (.call (some 49) 36 [(.t 46), (.t 47), (.t 48)])⟩, ⟨none, (.pick 50 (.t 45) (.t 49) (.v (.k (.c (.bool false)))))⟩]
def f16b30 : AQ := (.seq (.region f16r29) f16b28)
def f16r31 : List AI := [⟨none, (.mov 37 (.t 0))⟩, ⟨none, (.mov 38 (.t 5))⟩, ⟨none, (.mov 39 (.t 7))⟩, ⟨none, (.call (some 40) 35 [(.t 37), (.t 38), (.t 39)])⟩, ⟨none, (.mov 8 (.t 40))⟩]
def f16b32 : AQ := (.seq (.region f16r31) (.frz 40 f16b30))
def f16b33 : AQ := (.block 5 f16b32)
def f16b34 : AQ := (.seq f16b33 (.region f16r6))
def f16b35 : AQ := (.cond (.t 34) .skip (.exit 4))
def f16r36 : List AI := [⟨none, (.mov 31 (.t 7))⟩, ⟨none, (.mov 32 (.t 0))⟩, ⟨none, (.len 33 (.t 32))⟩, ⟨none, (.bin 34 .lss (.t 31) (.t 33))⟩]
def f16b37 : AQ := (.seq (.region f16r36) f16b35)
def f16b38 : AQ := (.seq f16b37 f16b34)
def f16b39 : AQ := (.frz 89 f16b38)
def f16l40 : AQ := .loop [0, 3, 4, 5, 6, 7] [11, 28, 40, 70, 89, 92, 41000, 41001, 41002, 90000, 90001, 90002] f16b39
def f16b41 : AQ := (.block 4 f16l40)
def f16r42 : List AI := [⟨none, (.mov 29 (.t 5))⟩, ⟨none, (.bin 30 .add (.t 29) (.v (.k (.c (.int .i64 1)))))⟩, ⟨none, (.mov 7 (.t 30))⟩]
def f16b43 : AQ := (.seq (.region f16r42) f16b41)
def f16b44 : AQ := (.seq f16b43 (.region f16r5))
def f16r45 : List AI := [⟨none, (.bslice 28 25 3 [(.list 0 (some true) []), (.list 0 (some true) []), (.int .i64 0)] 0 [])⟩, ⟨none, (.mov 6 (.t 28))⟩]
def f16b46 : AQ := (.seq (.region f16r45) (.frz 28 f16b44))
def f16b47 : AQ := (.block 3 f16b46)
def f16b48 : AQ := (.seq f16b47 (.region f16r4))
def f16b49 : AQ := (.cond (.t 25) .skip (.exit 2))
def f16r50 : List AI := [⟨none, (.mov 22 (.t 5))⟩, ⟨none, (.mov 23 (.t 0))⟩, ⟨none, (.len 24 (.t 23))⟩, ⟨none, (.bin 25 .lss (.t 22) (.t 24))⟩]
def f16b51 : AQ := (.seq (.region f16r50) f16b49)
def f16b52 : AQ := (.seq f16b51 f16b48)
def f16l53 : AQ := .loop [0, 3, 4, 5] [11, 92] f16b52
def f16b54 : AQ := (.block 2 f16l53)
def f16r55 : List AI := [⟨none, (.mov 5 (.v (.k (.c (.int .i64 0)))))⟩]
def f16b56 : AQ := (.seq (.region f16r55) f16b54)
def f16b57 : AQ := (.block 1 f16b56)
def f16b58 : AQ := (.seq f16b57 (.region f16r3))
def f16b59 : AQ := (.cond (.t 19) .skip (.exit 0))
def f16r60 : List AI := [⟨none, (.mov 16 (.t 4))⟩, ⟨none, (.mov 17 (.t 0))⟩, ⟨none, (.len 18 (.t 17))⟩, ⟨none, (.bin 19 .leq (.t 16) (.t 18))⟩]
def f16b61 : AQ := (.seq (.region f16r60) f16b59)
def f16b62 : AQ := (.seq f16b61 f16b58)
def f16l63 : AQ := .loop [0, 3, 4] [11, 92] f16b62
def f16b64 : AQ := (.block 0 f16l63)
def f16r65 : List AI := [⟨none, (.mov 4 (.v (.k (.c (.int .i64 2)))))⟩]
def f16b66 : AQ := (.seq (.region f16r65) f16b64)
def f16b67 : AQ := (.seq f16b66 f16b2)
def f16r68 : List AI := [⟨none, (.mov 15 (.t 3))⟩, ⟨none, (.mov 2 (.t 15))⟩]
def f16b69 : AQ := (.seq (.region f16r68) .ret)
def f16b70 : AQ := (.cond (.t 14) f16b69 .skip)
def f16r71 : List AI := [⟨none, (.mov 12 (.t 0))⟩, ⟨none, (.call (some 13) 11 [(.t 12)])⟩, ⟨none, (.bin 14 .neq (.t 13) (.v (.k (.c (.int .i64 0)))))⟩]
def f16b72 : AQ := (.seq (.region f16r71) f16b70)
def f16b73 : AQ := (.seq f16b72 f16b67)
def f16r74 : List AI := [⟨none, (.bslice 11 25 3 [(.list 0 (some true) []), (.list 0 (some true) []), (.int .i64 0)] 0 [])⟩, ⟨none, (.mov 3 (.t 11))⟩]
def f16b75 : AQ := (.seq (.region f16r74) f16b73)
def f16r76 : List AI := [⟨none, (.nilL 2 25 3)⟩]
def f16b77 : AQ := (.seq (.region f16r76) f16b75)
def f16 : AQ := f16b77
theorem hf16 : cFunc Try.prog 16 = some ⟨94, f16.erase, [(RX.t 2)]⟩ := by kernel_rfl
theorem okf16 : f16.ok = true := by kernel_rfl
def f17r1 : List AI := [⟨none, (.mov 5 (.t 0))⟩, ⟨none, (.call (some 6) 15 [(.t 5)])⟩, ⟨none, (.mkfn 7 39 [(.t 3)])⟩, ⟨none, (.call (some 8) 38 [(.t 6), (.t 7)])⟩, ⟨none, (.mov 4 (.t 8))⟩]
def f17b2 : AQ := (.seq (.region f17r1) .ret)
def f17r3 : List AI := [⟨none, (.box 3 25 (.t 1))⟩, ⟨none, (.mov 4 (.v (.k (.c (.bool false)))))⟩]
def f17b4 : AQ := (.seq (.region f17r3) f17b2)
def f17 : AQ := f17b4
theorem hf17 : cFunc Try.prog 17 = some ⟨9, f17.erase, [(RX.t 4)]⟩ := by kernel_rfl
theorem okf17 : f17.ok = true := by kernel_rfl
def f18r1 : List AI := [⟨none, (.mov 4 (.v (.k (.c (.bool false)))))⟩]
def f18b2 : AQ := (.seq (.region f18r1) .ret)
def f18r3 : List AI := [⟨none, (.mov 13 (.t 6))⟩, ⟨none, (.bin 14 .add (.t 13) (.v (.k (.c (.int .i64 1)))))⟩, ⟨none, (.mov 6 (.t 14))⟩]
def f18r4 : List AI := [⟨none, (.mov 4 (.v (.k (.c (.bool true)))))⟩]
def f18b5 : AQ := (.seq (.region f18r4) .ret)
def f18b6 : AQ := (.cond (.t 20) f18b5 .skip)
def f18r7 : List AI := [⟨none, (.mov 15 (.t 5))⟩, ⟨none, (.mov 16 (.t 6))⟩, ⟨none, (.iaddr 17 3 (.t 15) (.t 16))⟩, ⟨none, (.load 18 3 true (.t 17))⟩, ⟨none, (.load 19 3 true (.t 3))⟩, ⟨none, (.call (some 20) 30 [(.t 18), (.t 19)])⟩]
def f18b8 : AQ := (.seq (.draw f18r7 [[], [], [0, 1], [2], [], [3, 4]]) f18b6)
def f18b9 : AQ := (.block 1 f18b8)
def f18b10 : AQ := (.seq f18b9 (.region f18r3))
def f18b11 : AQ := (.cond (.t 12) .skip (.exit 0))
def f18r12 : List AI := [⟨none, (.mov 9 (.t 6))⟩, ⟨none, (.mov 10 (.t 5))⟩, ⟨none, (.len 11 (.t 10))⟩, ⟨none, (.bin 12 .lss (.t 9) (.t 11))⟩]
def f18b13 : AQ := (.seq (.region f18r12) f18b11)
def f18b14 : AQ := (.seq f18b13 f18b10)
def f18l15 : AQ := .loop [3, 5, 6] [3, 8, 9000, 9001, 9002] f18b14
def f18b16 : AQ := (.block 0 f18l15)
def f18r17 : List AI := [⟨none, (.mov 6 (.v (.k (.c (.int .i64 0)))))⟩]
def f18b18 : AQ := (.seq (.region f18r17) f18b16)
def f18b19 : AQ := (.seq f18b18 f18b2)
def f18r20 : List AI := [⟨none, (.mov 7 (.t 0))⟩, ⟨none, (.call (some 8) 16 [(.t 7)])⟩, ⟨none, (.mov 5 (.t 8))⟩]
def f18b21 : AQ := (.seq (.region f18r20) f18b19)
def f18r22 : List AI := [⟨none, (.box 3 25 (.t 1))⟩, ⟨none, (.mov 4 (.v (.k (.c (.bool false)))))⟩]
def f18b23 : AQ := (.seq (.region f18r22) f18b21)
def f18 : AQ := f18b23
theorem hf18 : cFunc Try.prog 18 = some ⟨21, f18.erase, [(RX.t 4)]⟩ := by kernel_rfl
theorem okf18 : f18.ok = true := by kernel_rfl
def f19r1 : List AI := [⟨none, (.mov 4 (.v (.k (.c (.bool true)))))⟩]
def f19b2 : AQ := (.seq (.region f19r1) .ret)
def f19r3 : List AI := [⟨none, (.mov 15 (.t 5))⟩, ⟨none, (.bin 16 .add (.t 15) (.v (.k (.c (.int .i64 1)))))⟩, ⟨none, (.mov 5 (.t 16))⟩]
def f19r4 : List AI := [⟨none, (.mov 4 (.v (.k (.c (.bool false)))))⟩]
def f19b5 : AQ := (.seq (.region f19r4) .ret)
def f19b6 : AQ := (.cond (.t 25) f19b5 .skip)
def f19r7 : List AI := [⟨none, (.mov 17 (.t 0))⟩, ⟨none, (.mov 18 (.t 5))⟩, ⟨none, (.iaddr 19 1 (.t 17) (.t 18))⟩, ⟨none, (.load 20 1 false (.t 19))⟩, ⟨none, (.mov 21 (.t 1))⟩, ⟨none, (.mov 22 (.t 5))⟩, ⟨none, (.iaddr 23 1 (.t 21) (.t 22))⟩, ⟨none, (.load 24 1 false (.t 23))⟩, ⟨none, (.bin 25 .neq (.t 20) (.t 24))⟩]
def f19b8 : AQ := (.seq (.draw f19r7 [[], [], [0, 1], [2], [], [], [4, 5], [6], [3, 7]]) f19b6)
def f19b9 : AQ := (.block 1 f19b8)
def f19b10 : AQ := (.seq f19b9 (.region f19r3))
def f19b11 : AQ := (.cond (.t 14) .skip (.exit 0))
def f19r12 : List AI := [⟨none, (.mov 11 (.t 5))⟩, ⟨none, (.mov 12 (.t 0))⟩, ⟨none, (.len 13 (.t 12))⟩, ⟨none, (.bin 14 .lss (.t 11) (.t 13))⟩]
def f19b13 : AQ := (.seq (.region f19r12) f19b11)
def f19b14 : AQ := (.seq f19b13 f19b10)
def f19l15 : AQ := .loop [0, 1, 5] [] f19b14
def f19b16 : AQ := (.block 0 f19l15)
def f19r17 : List AI := [⟨none, (.mov 5 (.v (.k (.c (.int .i64 0)))))⟩]
def f19b18 : AQ := (.seq (.region f19r17) f19b16)
def f19b19 : AQ := (.seq f19b18 f19b2)
def f19r20 : List AI := [⟨none, (.mov 4 (.v (.k (.c (.bool false)))))⟩]
def f19b21 : AQ := (.seq (.region f19r20) .ret)
def f19b22 : AQ := (.cond (.t 10) f19b21 .skip)
def f19r23 : List AI := [⟨none, (.mov 6 (.t 0))⟩, ⟨none, (.len 7 (.t 6))⟩, ⟨none, (.mov 8 (.t 1))⟩, ⟨none, (.len 9 (.t 8))⟩, ⟨none, (.bin 10 .neq (.t 7) (.t 9))⟩]
def f19b24 : AQ := (.seq (.region f19r23) f19b22)
def f19b25 : AQ := (.seq f19b24 f19b19)
def f19r26 : List AI := [⟨none, (.mov 4 (.v (.k (.c (.bool false)))))⟩]
def f19b27 : AQ := (.seq (.region f19r26) f19b25)
def f19 : AQ := f19b27
theorem hf19 : cFunc Try.prog 19 = some ⟨26, f19.erase, [(RX.t 4)]⟩ := by kernel_rfl
theorem okf19 : f19.ok = true := by kernel_rfl
def f20r1 : List AI := [⟨none, (.mov 24 (.t 3))⟩, ⟨none, (.call (some 25) 41 [(.v (.k (.c (.int .i64 200)))), (.t 24)])⟩, ⟨none, (.mov 2 (.t 25))⟩]
def f20b2 : AQ := (.seq (.region f20r1) (.frz 25 .ret))
def f20r3 : List AI := [⟨none, (.bin 23 .add (.t 11) (.v (.k (.c (.int .i64 1)))))⟩, ⟨none, (.mov 11 (.t 23))⟩]
def f20r4 : List AI := [⟨none, (.mov 15 (.t 3))⟩, ⟨none, (.faddr 16 0 (.t 5))⟩, ⟨none, (.load 17 1 false (.t 16))⟩, ⟨none, (.faddr 18 1 (.t 5))⟩, ⟨none, (.load 19 1 false (.t 18))⟩, ⟨none, (.build 20 [(.int .i64 0), (.int .i64 0)] [(0, (1, (.t 17))), (1, (1, (.t 19)))])⟩, ⟨none, (.bslice 21 59 2 [(.int .i64 0), (.int .i64 0)] 1 [(0, (.t 20))])⟩, ⟨none, (.append 22 59 2 16 (.t 15) (.t 21))⟩, ⟨none, (.mov 3 (.t 22))⟩]
def f20r5 : List AI := [⟨none, (.iaddr 13 6 (.t 9) (.t 11))⟩, ⟨none, (.load 14 6 true (.t 13))⟩, ⟨none, (.alloc 5 40 [(.int .i64 0), (.int .i64 0), (.int .i64 0), (.int .i64 0), (.int .i64 0), (.int .i64 0)])⟩, ⟨none, (.store 6 (.t 5) (.t 14))⟩]
def f20b6 : AQ := (.seq (.region f20r5) (.region f20r4))
def f20b7 : AQ := (.block 1 f20b6)
def f20b8 : AQ := (.seq f20b7 (.region f20r3))
def f20b9 : AQ := (.cond (.t 12) .skip (.exit 0))
def f20b10 : AQ := (.seq f20b9 f20b8)
def f20r11 : List AI := [⟨none, (.bin 12 .lss (.t 11) (.t 10))⟩]
def f20b12 : AQ := (.seq (.region f20r11) f20b10)
def f20l13 : AQ := .loop [3, 9, 10, 11] [3, 22] f20b12
def f20b14 : AQ := (.block 0 f20l13)
def f20r15 : List AI := [⟨none, (.mov 9 (.t 0))⟩, ⟨none, (.len 10 (.t 9))⟩, ⟨none, (.mov 11 (.v (.k (.c (.int .i64 0)))))⟩]
def f20b16 : AQ := (.seq (.region f20r15) f20b14)
def f20b17 : AQ := (.seq f20b16 f20b2)
def f20r18 : List AI := [⟨none, (.nilL 3 59 2)⟩]
def f20b19 : AQ := (.seq (.region f20r18) f20b17)
def f20r20 : List AI := [⟨none, (.nilL 2 3 1)⟩]
def f20b21 : AQ := (.seq (.region f20r20) .ret)
def f20b22 : AQ := (.cond (.t 8) f20b21 .skip)
def f20r23 : List AI := [⟨none, (.mov 6 (.t 0))⟩, ⟨none, (.call (some 7) 10 [(.t 6)])⟩, ⟨none, (.bin 8 .neq (.t 7) (.v (.k (.c (.int .i64 0)))))⟩]
def f20b24 : AQ := (.seq (.region f20r23) f20b22)
def f20b25 : AQ := (.seq f20b24 f20b19)
def f20r26 : List AI := [⟨none, (.nilL 2 3 1)⟩]
def f20b27 : AQ := (.seq (.region f20r26) f20b25)
def f20 : AQ := f20b27
theorem hf20 : cFunc Try.prog 20 = some ⟨26, f20.erase, [(RX.t 2)]⟩ := by kernel_rfl
theorem okf20 : f20.ok = true := by kernel_rfl
def f21r1 : List AI := [⟨none, (.mov 28 (.t 3))⟩, ⟨none, (.mov 29 (.t 0))⟩, ⟨none, (.call (some 30) 24 [(.t 29)])⟩, ⟨none, (.call (some 31) 42 [(.t 28), (.t 30)])⟩, ⟨none, (.mov 2 (.t 31))⟩]
def f21b2 : AQ := (.seq (.region f21r1) .ret)
def f21r3 : List AI := [⟨none, (.mov 12 (.t 4))⟩, ⟨none, (.bin 13 .add (.t 12) (.v (.k (.c (.int .i64 1)))))⟩, ⟨none, (.mov 4 (.t 13))⟩]
def f21r4 : List AI := [⟨none, (.mov 14 (.t 3))⟩, ⟨none, (.mov 15 (.t 0))⟩, ⟨none, (.mov 16 (.t 4))⟩, ⟨none, (.iaddr 17 6 (.t 15) (.t 16))⟩, ⟨none, (.faddr 18 0 (.t 17))⟩, ⟨none, (.load 19 1 false (.t 18))⟩, ⟨none, (.mov 20 (.t 0))⟩, ⟨none, (.mov 21 (.t 4))⟩, ⟨none, (.iaddr 22 6 (.t 20) (.t 21))⟩, ⟨none, (.faddr 23 1 (.t 22))⟩, ⟨none, (.load 24 1 false (.t 23))⟩, ⟨none, (.minmax 25 true (.t 19) [(.t 24)])⟩, ⟨none, (.bin 26 .add (.t 25) (.v (.k (.c (.int .i64 1)))))⟩, ⟨none, (.minmax 27 true (.t 14) [(.t 26)])⟩, ⟨none, (.mov 3 (.t 27))⟩]
def f21b5 : AQ := (.block 1 (.draw f21r4 [[], [], [], [1, 2], [3], [4], [], [], [6, 7], [8], [9], [5, 10], [11], [0, 12], [13, 0, 1, 2, 3, 4, 5, 6, 7, 8, 9, 10, 11, 12, 13]]))
def f21b6 : AQ := (.seq f21b5 (.region f21r3))
def f21b7 : AQ := (.cond (.t 11) .skip (.exit 0))
def f21r8 : List AI := [⟨none, (.mov 8 (.t 4))⟩, ⟨none, (.mov 9 (.t 0))⟩, ⟨none, (.len 10 (.t 9))⟩, ⟨none, (.bin 11 .lss (.t 8) (.t 10))⟩]
def f21b9 : AQ := (.seq (.region f21r8) f21b7)
def f21b10 : AQ := (.seq f21b9 f21b6)
def f21l11 : AQ := .loop [0, 3, 4] [] f21b10
def f21b12 : AQ := (.block 0 f21l11)
def f21r13 : List AI := [⟨none, (.mov 4 (.v (.k (.c (.int .i64 0)))))⟩]
def f21b14 : AQ := (.seq (.region f21r13) f21b12)
def f21b15 : AQ := (.seq f21b14 f21b2)
def f21r16 : List AI := [⟨none, (.mov 3 (.v (.k (.c (.int .i64 0)))))⟩]
def f21b17 : AQ := (.seq (.region f21r16) f21b15)
def f21r18 : List AI := [⟨none, (.nilL 2 3 1)⟩]
def f21b19 : AQ := (.seq (.region f21r18) .ret)
def f21b20 : AQ := (.cond (.t 7) f21b19 .skip)
def f21r21 : List AI := [⟨none, (.mov 5 (.t 0))⟩, ⟨none, (.call (some 6) 11 [(.t 5)])⟩, ⟨none, (.bin 7 .neq (.t 6) (.v (.k (.c (.int .i64 0)))))⟩]
def f21b22 : AQ := (.seq (.region f21r21) f21b20)
def f21b23 : AQ := (.seq f21b22 f21b17)
def f21r24 : List AI := [⟨none, (.nilL 2 3 1)⟩]
def f21b25 : AQ := (.seq (.region f21r24) f21b23)
def f21 : AQ := f21b25
theorem hf21 : cFunc Try.prog 21 = some ⟨32, f21.erase, [(RX.t 2)]⟩ := by kernel_rfl
theorem okf21 : f21.ok = true := by kernel_rfl
def f22r1 : List AI := [⟨none, (.mov 46 (.t 1))⟩, ⟨none, (.len 47 (.t 46))⟩, ⟨none, (.bin 48 .gtr (.t 47) (.v (.k (.c (.int .i64 1)))))⟩, ⟨none, (.mov 49 (.t 48))⟩, ⟨(some (49, true)), (.mov 50 (.t 0))⟩, ⟨(some (49, true)), (.mov 51 (.t 1))⟩, ⟨(some (49, true)), (.mov 52 (.t 1))⟩, ⟨(some (49, true)), (.len 53 (.t 52))⟩, ⟨(some (49, true)), (.bin 54 .sub (.t 53) (.v (.k (.c (.int .i64 1)))))⟩, ⟨(some (49, true)), (.iaddr 55 1 (.t 51) (.t 54))⟩, ⟨(some (49, true)), (.load 56 1 false (.t 55))⟩, ⟨(some (49, true)), (.iaddr 57 6 (.t 50) (.t 56))⟩, ⟨(some (49, true)), (.faddr 58 1 (.t 57))⟩, ⟨(some (49, true)), (.load 59 1 false (.t 58))⟩, ⟨(some (49, true)), (.mov 60 (.t 0))⟩, ⟨(some (49, true)), (.mov 61 (.t 1))⟩, ⟨(some (49, true)), (.iaddr 62 1 (.t 61) (.v (.k (.c (.int .i64 0)))))⟩, ⟨(some (49, true)), (.load 63 1 false (.t 62))⟩, ⟨(some (49, true)), (.iaddr 64 6 (.t 60) (.t 63))⟩, ⟨(some (49, true)), (.faddr 65 0 (.t 64))⟩, ⟨(some (49, true)), (.load 66 1 false (.t 65))⟩, ⟨(some (49, true)), (.bin 67 .eql (.t 59) (.t 66))⟩, ⟨none, (.pick 68 (.t 49) (.t 67) (.v (.k (.c (.bool false)))))⟩, ⟨none, (.mov 4 (.t 68))⟩]
def f22b2 : AQ := (.seq (.draw f22r1 [[], [0], [1], [2], [3], [3], [3], [6, 3], [7, 3], [5, 8, 3], [9, 3], [4, 10, 3], [11, 3], [12, 3], [3], [3], [15, 3], [16, 3], [14, 17, 3], [18, 3], [19, 3], [13, 20, 3], [3, 21], [22, 3, 0, 1, 2, 3, 4, 5, 6, 7, 8, 9, 10, 11, 12, 13, 14, 15, 16, 17, 18, 19, 20, 21, 22]]) .ret)
def f22r3 : List AI := [⟨none, (.mov 10 (.t 5))⟩, ⟨none, (.bin 11 .add (.t 10) (.v (.k (.c (.int .i64 1)))))⟩, ⟨none, (.mov 5 (.t 11))⟩]
def f22r4 : List AI := [⟨none, (.mov 4 (.v (.k (.c (.bool false)))))⟩]
def f22b5 : AQ := (.seq (.region f22r4) .ret)
def f22b6 : AQ := (.cond (.t 45) f22b5 .skip)
def f22r7 : List AI := [⟨none, (.mov 12 (.t 1))⟩, ⟨none, (.mov 13 (.t 5))⟩, ⟨none, (.iaddr 14 1 (.t 12) (.t 13))⟩, ⟨none, (.load 15 1 false (.t 14))⟩, ⟨none, (.bin 16 .lss (.t 15) (.v (.k (.c (.int .i64 0)))))⟩, ⟨none, (.mov 17 (.t 16))⟩, ⟨(some (17, false)), (.mov 18 (.t 1))⟩, ⟨(some (17, false)), (.mov 19 (.t 5))⟩, ⟨(some (17, false)), (.iaddr 20 1 (.t 18) (.t 19))⟩, ⟨(some (17, false)), (.load 21 1 false (.t 20))⟩, ⟨(some (17, false)), (.mov 22 (.t 0))⟩, ⟨(some (17, false)), (.len 23 (.t 22))⟩, ⟨(some (17, false)), (.bin 24 .geq (.t 21) (.t 23))⟩, ⟨none, (.pick 25 (.t 17) (.v (.k (.c (.bool true)))) (.t 24))⟩, ⟨none, (.mov 26 (.t 25))⟩, ⟨(some (26, false)), (.mov 27 (.t 5))⟩, ⟨(some (26, false)), (.bin 28 .gtr (.t 27) (.v (.k (.c (.int .i64 0)))))⟩, ⟨(some (26, false)), (.mov 29 (.t 28))⟩, ⟨(some (29, true)), (.mov 30 (.t 0))⟩, ⟨(some (29, true)), (.mov 31 (.t 1))⟩, ⟨(some (29, true)), (.mov 32 (.t 5))⟩, ⟨(some (29, true)), (.iaddr 33 1 (.t 31) (.t 32))⟩, ⟨(some (29, true)), (.load 34 1 false (.t 33))⟩, ⟨(some (29, true)), (.iaddr 35 6 (.t 30) (.t 34))⟩, ⟨(some (29, true)), (.faddr 36 5 (.t 35))⟩, ⟨(some (29, true)), (.load 37 1 false (.t 36))⟩, ⟨(some (29, true)), (.mov 38 (.t 1))⟩, ⟨(some (29, true)), (.mov 39 (.t 5))⟩, ⟨(some (29, true)), (.bin 40 .sub (.t 39) (.v (.k (.c (.int .i64 1)))))⟩, ⟨(some (29, true)), (.iaddr 41 1 (.t 38) (.t 40))⟩, ⟨(some (29, true)), (.load 42 1 false (.t 41))⟩, ⟨(some (29, true)), (.bin 43 .neq (.t 37) (.t 42))⟩, ⟨(some (26, false)), (.pick 44 (.t 29) (.t 43) (.v (.k (.c (.bool false)))))⟩, ⟨none, (.pick 45 (.t 26) (.v (.k (.c (.bool true)))) (.t 44))⟩]
def f22b8 : AQ := (.seq (.draw f22r7 [[], [], [0, 1], [2], [3], [4], [5], [5], [6, 7, 5], [8, 5], [5], [10, 5], [9, 11, 5], [5, 12], [13, 5], [14], [15, 14], [16, 14, 14], [17], [17], [17], [19, 20, 17], [21, 17], [18, 22, 17], [23, 17], [24, 17], [17], [17], [27, 17], [26, 28, 17], [29, 17], [25, 30, 17], [17, 31, 14], [14, 32]]) f22b6)
def f22b9 : AQ := (.block 1 f22b8)
def f22b10 : AQ := (.seq f22b9 (.region f22r3))
def f22b11 : AQ := (.cond (.t 9) .skip (.exit 0))
def f22r12 : List AI := [⟨none, (.mov 6 (.t 5))⟩, ⟨none, (.mov 7 (.t 1))⟩, ⟨none, (.len 8 (.t 7))⟩, ⟨none, (.bin 9 .lss (.t 6) (.t 8))⟩]
def f22b13 : AQ := (.seq (.region f22r12) f22b11)
def f22b14 : AQ := (.seq f22b13 f22b10)
def f22l15 : AQ := .loop [0, 1, 5] [] f22b14
def f22b16 : AQ := (.block 0 f22l15)
def f22r17 : List AI := [⟨none, (.mov 5 (.v (.k (.c (.int .i64 0)))))⟩]
def f22b18 : AQ := (.seq (.region f22r17) f22b16)
def f22b19 : AQ := (.seq f22b18 f22b2)
def f22r20 : List AI := [⟨none, (.mov 4 (.v (.k (.c (.bool false)))))⟩]
def f22b21 : AQ := (.seq (.region f22r20) f22b19)
def f22 : AQ := f22b21
def f23r1 : List AI := [⟨none, (.mov 6 (.v (.k (.c (.bool false)))))⟩]
def f23b2 : AQ := (.seq (.region f23r1) .ret)
def f23r3 : List AI := [⟨none, (.mov 12 (.t 7))⟩, ⟨none, (.bin 13 .add (.t 12) (.v (.k (.c (.int .i64 1)))))⟩, ⟨none, (.mov 7 (.t 13))⟩]
def f23r4 : List AI := [⟨none, (.mov 6 (.v (.k (.c (.bool true)))))⟩]
def f23b5 : AQ := (.seq (.region f23r4) .ret)
def f23b6 : AQ := (.cond (.t 29) f23b5 .skip)
def f23r7 : List AI := [⟨none, (.mov 14 (.t 0))⟩, ⟨none, (.mov 15 (.t 7))⟩, ⟨none, (.iaddr 16 2 (.t 14) (.t 15))⟩, ⟨none, (.iaddrA 17 1 2 (.t 16) (.v (.k (.c (.int .i64 0)))))⟩, ⟨none, (.load 18 1 false (.t 17))⟩, ⟨none, (.mov 19 (.t 1))⟩, ⟨none, (.bin 20 .eql (.t 18) (.t 19))⟩, ⟨none, (.mov 21 (.t 20))⟩, ⟨(some (21, true)), (.mov 22 (.t 0))⟩, ⟨(some (21, true)), (.mov 23 (.t 7))⟩, ⟨(some (21, true)), (.iaddr 24 2 (.t 22) (.t 23))⟩, ⟨(some (21, true)), (.iaddrA 25 1 2 (.t 24) (.v (.k (.c (.int .i64 1)))))⟩, ⟨(some (21, true)), (.load 26 1 false (.t 25))⟩, ⟨(some (21, true)), (.mov 27 (.t 2))⟩, ⟨(some (21, true)), (.bin 28 .eql (.t 26) (.t 27))⟩, ⟨none, (.pick 29 (.t 21) (.t 28) (.v (.k (.c (.bool false)))))⟩]
def f23b8 : AQ := (.seq (.region f23r7) f23b6)
def f23b9 : AQ := (.block 1 f23b8)
def f23b10 : AQ := (.seq f23b9 (.region f23r3))
def f23b11 : AQ := (.cond (.t 11) .skip (.exit 0))
def f23r12 : List AI := [⟨none, (.mov 8 (.t 7))⟩, ⟨none, (.mov 9 (.t 0))⟩, ⟨none, (.len 10 (.t 9))⟩, ⟨none, (.bin 11 .lss (.t 8) (.t 10))⟩]
def f23b13 : AQ := (.seq (.region f23r12) f23b11)
def f23b14 : AQ := (.seq f23b13 f23b10)
def f23l15 : AQ := .loop [0, 1, 2, 7] [] f23b14
def f23b16 : AQ := (.block 0 f23l15)
def f23r17 : List AI := [⟨none, (.mov 7 (.v (.k (.c (.int .i64 0)))))⟩]
def f23b18 : AQ := (.seq (.region f23r17) f23b16)
def f23b19 : AQ := (.seq f23b18 f23b2)
def f23r20 : List AI := [⟨none, (.mov 6 (.v (.k (.c (.bool false)))))⟩]
def f23b21 : AQ := (.seq (.region f23r20) f23b19)
def f23 : AQ := f23b21
theorem hf23 : cFunc Try.prog 23 = some ⟨30, f23.erase, [(RX.t 6)]⟩ := by kernel_rfl
theorem okf23 : f23.ok = true := by kernel_rfl
def f24r1 : List AI := [⟨none, (.mov 26 (.t 3))⟩, ⟨none, (.mov 2 (.t 26))⟩]
def f24b2 : AQ := (.seq (.region f24r1) .ret)
def f24r3 : List AI := [⟨none, (.mov 10 (.t 4))⟩, ⟨none, (.bin 11 .add (.t 10) (.v (.k (.c (.int .i64 1)))))⟩, ⟨none, (.mov 4 (.t 11))⟩]
def f24r4 : List AI := [⟨none, (.mov 12 (.t 3))⟩, ⟨none, (.mov 13 (.t 0))⟩, ⟨none, (.mov 14 (.t 4))⟩, ⟨none, (.iaddr 15 6 (.t 13) (.t 14))⟩, ⟨none, (.faddr 16 0 (.t 15))⟩, ⟨none, (.load 17 1 false (.t 16))⟩, ⟨none, (.mov 18 (.t 0))⟩, ⟨none, (.mov 19 (.t 4))⟩, ⟨none, (.iaddr 20 6 (.t 18) (.t 19))⟩, ⟨none, (.faddr 21 1 (.t 20))⟩, ⟨none, (.load 22 1 false (.t 21))⟩, ⟨none, (.build 23 [(.int .i64 0), (.int .i64 0)] [(0, (1, (.t 17))), (1, (1, (.t 22)))])⟩, ⟨none, (.bslice 24 59 2 [(.int .i64 0), (.int .i64 0)] 1 [(0, (.t 23))])⟩, ⟨none, (.append 25 59 2 16 (.t 12) (.t 24))⟩, ⟨none, (.mov 3 (.t 25))⟩]
def f24b5 : AQ := (.block 1 (.draw f24r4 [[], [], [], [1, 2], [3], [4], [], [], [6, 7], [8], [9], [5, 10], [11], [0, 12], [13, 13, 0, 1, 2, 3, 4, 5, 6, 7, 8, 9, 10, 11, 12, 13]]))
def f24b6 : AQ := (.seq f24b5 (.region f24r3))
def f24b7 : AQ := (.cond (.t 9) .skip (.exit 0))
def f24r8 : List AI := [⟨none, (.mov 6 (.t 4))⟩, ⟨none, (.mov 7 (.t 0))⟩, ⟨none, (.len 8 (.t 7))⟩, ⟨none, (.bin 9 .lss (.t 6) (.t 8))⟩]
def f24b9 : AQ := (.seq (.region f24r8) f24b7)
def f24b10 : AQ := (.seq f24b9 f24b6)
def f24l11 : AQ := .loop [0, 3, 4] [5, 25] f24b10
def f24b12 : AQ := (.block 0 f24l11)
def f24r13 : List AI := [⟨none, (.mov 4 (.v (.k (.c (.int .i64 0)))))⟩]
def f24b14 : AQ := (.seq (.region f24r13) f24b12)
def f24b15 : AQ := (.seq f24b14 f24b2)
def f24r16 : List AI := [⟨none, (.bslice 5 59 2 [(.int .i64 0), (.int .i64 0)] 0 [])⟩, ⟨none, (.mov 3 (.t 5))⟩]
def f24b17 : AQ := (.seq (.region f24r16) f24b15)
def f24r18 : List AI := [⟨none, (.nilL 2 59 2)⟩]
def f24b19 : AQ := (.seq (.region f24r18) f24b17)
def f24 : AQ := f24b19
theorem hf24 : cFunc Try.prog 24 = some ⟨27, f24.erase, [(RX.t 2)]⟩ := by kernel_rfl
theorem okf24 : f24.ok = true := by kernel_rfl
def f25r1 : List AI := [(AI.mk none (.build 1 [(.int .i64 0), (.int .i64 0), (.int .i64 0), (.int .i64 0), (.int .i64 0), (.int .i64 0)] [(0, (1, (.v (.k (.c (.int .i64 1)))))), (1, (1, (.v (.k (.c (.int .i64 2)))))), (2, (1, (.v (.k (.c (.int .i64 100)))))), (3, (1, (.v (.k (.c (.int .i64 0)))))), (4, (1, (.v (.k (.c (.int .i64 30)))))), (5, (1, (.v (.k (.c (.int .i64 (-1)))))))])), ⟨none, (.build 2 [(.int .i64 0), (.int .i64 0), (.int .i64 0), (.int .i64 0), (.int .i64 0), (.int .i64 0)] [(0, (1, (.v (.k (.c (.int .i64 2)))))), (1, (1, (.v (.k (.c (.int .i64 3)))))), (2, (1, (.v (.k (.c (.int .i64 90)))))), (3, (1, (.v (.k (.c (.int .i64 29)))))), (4, (1, (.v (.k (.c (.int .i64 59)))))), (5, (1, (.v (.k (.c (.int .i64 0))))))])⟩, ⟨none, (.build 3 [(.int .i64 0), (.int .i64 0), (.int .i64 0), (.int .i64 0), (.int .i64 0), (.int .i64 0)] [(0, (1, (.v (.k (.c (.int .i64 3)))))), (1, (1, (.v (.k (.c (.int .i64 1)))))), (2, (1, (.v (.k (.c (.int .i64 100)))))), (3, (1, (.v (.k (.c (.int .i64 50)))))), (4, (1, (.v (.k (.c (.int .i64 90)))))), (5, (1, (.v (.k (.c (.int .i64 1))))))])⟩, ⟨none, (.bslice 4 40 6 [(.int .i64 0), (.int .i64 0), (.int .i64 0), (.int .i64 0), (.int .i64 0), (.int .i64 0)] 3 [(0, (.t 1)), (1, (.t 2)), (2, (.t 3))])⟩, ⟨none, (.mov 0 (.t 4))⟩]
def f25b2 : AQ := (.seq (.region f25r1) .ret)
def f25r3 : List AI := [⟨none, (.nilL 0 40 6)⟩]
def f25b4 : AQ := (.seq (.region f25r3) f25b2)
def f25 : AQ := f25b4
theorem hf25 : cFunc Try.prog 25 = some ⟨5, f25.erase, [(RX.t 0)]⟩ := by kernel_rfl
theorem okf25 : f25.ok = true := by kernel_rfl
def f26r1 : List AI := [⟨none, (.mov 3 (.t 0))⟩, ⟨none, (.bin 4 .geq (.t 3) (.v (.k (.c (.int .i64 0)))))⟩, ⟨none, (.mov 5 (.t 4))⟩, ⟨(some (5, true)), (.mov 6 (.t 0))⟩, ⟨(some (5, true)), (.bin 7 .lss (.t 6) (.v (.k (.c (.int .i64 200)))))⟩, ⟨none, (.pick 8 (.t 5) (.t 7) (.v (.k (.c (.bool false)))))⟩, ⟨none, (.mov 2 (.t 8))⟩]
def f26b2 : AQ := (.seq (.region f26r1) .ret)
def f26r3 : List AI := [⟨none, (.mov 2 (.v (.k (.c (.bool false)))))⟩]
def f26b4 : AQ := (.seq (.region f26r3) f26b2)
def f26 : AQ := f26b4
theorem hf26 : cFunc Try.prog 26 = some ⟨9, f26.erase, [(RX.t 2)]⟩ := by kernel_rfl
theorem okf26 : f26.ok = true := by kernel_rfl
def f27r1 : List AI := [⟨none, (.mov 3 (.t 0))⟩, ⟨none, (.bin 4 .geq (.t 3) (.v (.k (.c (.int .i64 0)))))⟩, ⟨none, (.mov 5 (.t 4))⟩, ⟨(some (5, true)), (.mov 6 (.t 0))⟩, ⟨(some (5, true)), (.bin 7 .lss (.t 6) (.v (.k (.c (.int .i64 200)))))⟩, ⟨none, (.pick 8 (.t 5) (.t 7) (.v (.k (.c (.bool false)))))⟩, ⟨none, (.mov 2 (.t 8))⟩]
def f27b2 : AQ := (.seq (.region f27r1) .ret)
def f27r3 : List AI := [⟨none, (.mov 2 (.v (.k (.c (.bool false)))))⟩]
def f27b4 : AQ := (.seq (.region f27r3) f27b2)
def f27 : AQ := f27b4
theorem hf27 : cFunc Try.prog 27 = some ⟨9, f27.erase, [(RX.t 2)]⟩ := by kernel_rfl
theorem okf27 : f27.ok = true := by kernel_rfl
def f28r1 : List AI := [⟨none, (.mov 3 (.t 0))⟩, ⟨none, (.bin 4 .geq (.t 3) (.v (.k (.c (.int .i64 0)))))⟩, ⟨none, (.mov 5 (.t 4))⟩, ⟨(some (5, true)), (.mov 6 (.t 0))⟩, ⟨(some (5, true)), (.bin 7 .leq (.t 6) (.v (.k (.c (.int .i64 100000)))))⟩, ⟨none, (.pick 8 (.t 5) (.t 7) (.v (.k (.c (.bool false)))))⟩, ⟨none, (.mov 2 (.t 8))⟩]
def f28b2 : AQ := (.seq (.region f28r1) .ret)
def f28r3 : List AI := [⟨none, (.mov 2 (.v (.k (.c (.bool false)))))⟩]
def f28b4 : AQ := (.seq (.region f28r3) f28b2)
def f28 : AQ := f28b4
theorem hf28 : cFunc Try.prog 28 = some ⟨9, f28.erase, [(RX.t 2)]⟩ := by kernel_rfl
theorem okf28 : f28.ok = true := by kernel_rfl
def f29r1 : List AI := [⟨none, (.mov 52 (.t 3))⟩, ⟨none, (.mov 2 (.t 52))⟩]
def f29b2 : AQ := (.seq (.region f29r1) .ret)
def f29r3 : List AI := [⟨none, (.bin 51 .add (.t 40) (.v (.k (.c (.int .i64 1)))))⟩, ⟨none, (.mov 40 (.t 51))⟩]
def f29r4 : List AI := [⟨none, (.mov 43 (.t 3))⟩, ⟨none, (.mov 44 (.t 6))⟩, ⟨none, (.mov 45 (.t 3))⟩, ⟨none, (.mov 46 (.t 6))⟩, ⟨none, (.iaddr 47 1 (.t 45) (.t 46))⟩, ⟨none, (.load 48 1 false (.t 47))⟩, ⟨none, (.minmax 49 true (.v (.k (.c (.int .i64 0)))) [(.t 48)])⟩, ⟨none, (.iaddr 50 1 (.t 43) (.t 44))⟩, ⟨none, (.store 1 (.t 50) (.t 49))⟩]
def f29r5 : List AI := [⟨none, (.mov 42 (.t 40))⟩, ⟨none, (.mov 6 (.t 42))⟩]
def f29b6 : AQ := (.seq (.region f29r5) (.region f29r4))
def f29b7 : AQ := (.block 3 f29b6)
def f29b8 : AQ := (.seq f29b7 (.region f29r3))
def f29b9 : AQ := (.cond (.t 41) .skip (.exit 2))
def f29b10 : AQ := (.seq f29b9 f29b8)
def f29r11 : List AI := [⟨none, (.bin 41 .lss (.t 40) (.t 39))⟩]
def f29b12 : AQ := (.seq (.region f29r11) f29b10)
def f29l13 : AQ := .loop [3, 39, 40] [9] f29b12
def f29b14 : AQ := (.block 2 f29l13)
def f29r15 : List AI := [⟨none, (.mov 38 (.t 3))⟩, ⟨none, (.len 39 (.t 38))⟩, ⟨none, (.mov 40 (.v (.k (.c (.int .i64 0)))))⟩]
def f29b16 : AQ := (.seq (.region f29r15) f29b14)
def f29b17 : AQ := (.seq f29b16 f29b2)
def f29r18 : List AI := [⟨none, (.bin 37 .add (.t 12) (.v (.k (.c (.int .i64 1)))))⟩, ⟨none, (.mov 12 (.t 37))⟩]
def f29r19 : List AI := [⟨none, (.mov 28 (.t 3))⟩, ⟨none, (.faddr 29 5 (.t 5))⟩, ⟨none, (.load 30 1 false (.t 29))⟩, ⟨none, (.iaddr 31 1 (.t 28) (.t 30))⟩, ⟨none, (.load 32 1 false (.t 31))⟩, ⟨none, (.faddr 33 2 (.t 5))⟩, ⟨none, (.load 34 1 false (.t 33))⟩, ⟨none, (.bin 35 .sub (.t 32) (.t 34))⟩, ⟨none, (.iaddr 36 1 (.t 28) (.t 30))⟩, ⟨none, (.store 1 (.t 36) (.t 35))⟩]
def f29b20 : AQ := (.cond (.t 27) (.draw f29r19 [[], [], [1], [0, 2], [3], [], [5], [4, 6], [0, 2, 0, 1, 2, 3, 4, 5, 6, 7], [8, 7, 0, 1, 2, 3, 4, 5, 6, 7]]) .skip)
def f29r21 : List AI := [⟨none, (.faddr 25 5 (.t 5))⟩, ⟨none, (.load 26 1 false (.t 25))⟩, ⟨none, (.bin 27 .neq (.t 26) (.v (.k (.c (.int .i64 (-1))))))⟩]
def f29b22 : AQ := (.seq (.region f29r21) f29b20)
def f29r23 : List AI := [⟨none, (.mov 17 (.t 3))⟩, ⟨none, (.mov 18 (.t 4))⟩, ⟨none, (.iaddr 19 1 (.t 17) (.t 18))⟩, ⟨none, (.load 20 1 false (.t 19))⟩, ⟨none, (.faddr 21 2 (.t 5))⟩, ⟨none, (.load 22 1 false (.t 21))⟩, ⟨none, (.bin 23 .add (.t 20) (.t 22))⟩, ⟨none, (.iaddr 24 1 (.t 17) (.t 18))⟩, ⟨none, (.store 1 (.t 24) (.t 23))⟩]
def f29b24 : AQ := (.seq (.draw f29r23 [[], [], [0, 1], [2], [], [4], [3, 5], [0, 1, 0, 1, 2, 3, 4, 5, 6], [7, 6, 0, 1, 2, 3, 4, 5, 6]]) f29b22)
def f29r25 : List AI := [⟨none, (.mov 14 (.t 12))⟩, ⟨none, (.iaddr 15 6 (.t 10) (.t 12))⟩, ⟨none, (.load 16 6 true (.t 15))⟩, ⟨none, (.alloc 5 40 [(.int .i64 0), (.int .i64 0), (.int .i64 0), (.int .i64 0), (.int .i64 0), (.int .i64 0)])⟩, ⟨none, (.mov 4 (.t 14))⟩, ⟨none, (.store 6 (.t 5) (.t 16))⟩]
def f29b26 : AQ := (.seq (.region f29r25) f29b24)
def f29b27 : AQ := (.block 1 f29b26)
def f29b28 : AQ := (.seq f29b27 (.region f29r18))
def f29b29 : AQ := (.cond (.t 13) .skip (.exit 0))
def f29b30 : AQ := (.seq f29b29 f29b28)
def f29r31 : List AI := [⟨none, (.bin 13 .lss (.t 12) (.t 11))⟩]
def f29b32 : AQ := (.seq (.region f29r31) f29b30)
def f29l33 : AQ := .loop [3, 10, 11, 12] [9] f29b32
def f29b34 : AQ := (.block 0 f29l33)
def f29r35 : List AI := [⟨none, (.mov 10 (.t 0))⟩, ⟨none, (.len 11 (.t 10))⟩, ⟨none, (.mov 12 (.v (.k (.c (.int .i64 0)))))⟩]
def f29b36 : AQ := (.seq (.region f29r35) f29b34)
def f29b37 : AQ := (.seq f29b36 f29b17)
def f29r38 : List AI := [⟨none, (.mov 7 (.t 0))⟩, ⟨none, (.len 8 (.t 7))⟩, ⟨none, (.mkslice 9 3 1 8 [(.int .i64 0)] (.t 8) (.t 8))⟩, ⟨none, (.mov 3 (.t 9))⟩]
def f29b39 : AQ := (.seq (.region f29r38) f29b37)
def f29r40 : List AI := [⟨none, (.nilL 2 3 1)⟩]
def f29b41 : AQ := (.seq (.region f29r40) f29b39)
def f29 : AQ := f29b41
theorem hf29 : cFunc Try.prog 29 = some ⟨53, f29.erase, [(RX.t 2)]⟩ := by kernel_rfl
theorem okf29 : f29.ok = true := by kernel_rfl
def f30r1 : List AI := [⟨none, (.faddr 5 2 (.t 2))⟩, ⟨none, (.load 6 1 false (.t 5))⟩, ⟨none, (.faddr 7 2 (.t 3))⟩, ⟨none, (.load 8 1 false (.t 7))⟩, ⟨none, (.bin 9 .eql (.t 6) (.t 8))⟩, ⟨none, (.mov 10 (.t 9))⟩, ⟨(some (10, true)), (.faddr 11 0 (.t 2))⟩, ⟨(some (10, true)), (.load 12 1 false (.t 11))⟩, ⟨(some (10, true)), (.faddr 13 0 (.t 3))⟩, ⟨(some (10, true)), (.load 14 1 false (.t 13))⟩, ⟨(some (10, true)), (.call (some 15) 19 [(.t 12), (.t 14)])⟩, ⟨none, (.pick 16 (.t 10) (.t 15) (.v (.k (.c (.bool false)))))⟩, ⟨none, (.mov 17 (.t 16))⟩, ⟨(some (17, true)), (.faddr 18 1 (.t 2))⟩, ⟨(some (17, true)), (.load 19 1 false (.t 18))⟩, ⟨(some (17, true)), (.faddr 20 1 (.t 3))⟩, ⟨(some (17, true)), (.load 21 1 false (.t 20))⟩, ⟨(some (17, true)), (.call (some 22) 19 [(.t 19), (.t 21)])⟩, ⟨none, (.pick 23 (.t 17) (.t 22) (.v (.k (.c (.bool false)))))⟩, ⟨none, (.mov 4 (.t 23))⟩]
def f30b2 : AQ := (.seq (.region f30r1) .ret)
def f30r3 : List AI := [⟨none, (.box 2 25 (.t 0))⟩, ⟨none, (.box 3 25 (.t 1))⟩, ⟨none, (.mov 4 (.v (.k (.c (.bool false)))))⟩]
def f30b4 : AQ := (.seq (.region f30r3) f30b2)
def f30 : AQ := f30b4
theorem hf30 : cFunc Try.prog 30 = some ⟨24, f30.erase, [(RX.t 4)]⟩ := by kernel_rfl
theorem okf30 : f30.ok = true := by kernel_rfl
def f31r1 : List AI := [⟨none, (.nilL 4 3 1)⟩]
def f31b2 : AQ := (.seq (.region f31r1) .ret)
def f31r3 : List AI := [⟨none, (.mov 16 (.t 0))⟩, ⟨none, (.mov 17 (.t 6))⟩, ⟨none, (.iaddr 18 6 (.t 16) (.t 17))⟩, ⟨none, (.faddr 19 5 (.t 18))⟩, ⟨none, (.load 20 1 false (.t 19))⟩, ⟨none, (.mov 6 (.t 20))⟩]
def f31r4 : List AI := [⟨none, (.mov 38 (.t 5))⟩, ⟨none, (.mov 4 (.t 38))⟩]
def f31b5 : AQ := (.seq (.region f31r4) .ret)
def f31r6 : List AI := [⟨none, (.mov 36 (.t 5))⟩, ⟨none, (.call (some 37) 43 [(.t 36)])⟩]
def f31b7 : AQ := (.seq (.region f31r6) f31b5)
def f31b8 : AQ := (.cond (.t 35) f31b7 .skip)
def f31r9 : List AI := [⟨none, (.mov 25 (.t 0))⟩, ⟨none, (.mov 26 (.t 6))⟩, ⟨none, (.iaddr 27 6 (.t 25) (.t 26))⟩, ⟨none, (.faddr 28 0 (.t 27))⟩, ⟨none, (.load 29 1 false (.t 28))⟩, ⟨none, (.mov 30 (.t 0))⟩, ⟨none, (.mov 31 (.t 1))⟩, ⟨none, (.iaddr 32 6 (.t 30) (.t 31))⟩, ⟨none, (.faddr 33 1 (.t 32))⟩, ⟨none, (.load 34 1 false (.t 33))⟩, ⟨none, (.bin 35 .eql (.t 29) (.t 34))⟩]
def f31b10 : AQ := (.seq (.draw f31r9 [[], [], [0, 1], [2], [3], [], [], [5, 6], [7], [8], [4, 9]]) f31b8)
def f31r11 : List AI := [⟨none, (.mov 21 (.t 5))⟩, ⟨none, (.mov 22 (.t 6))⟩, ⟨none, (.bslice 23 3 1 [(.int .i64 0)] 1 [(0, (.t 22))])⟩, ⟨none, (.append 24 3 1 8 (.t 21) (.t 23))⟩, ⟨none, (.mov 5 (.t 24))⟩]
def f31b12 : AQ := (.seq (.region f31r11) f31b10)
def f31b13 : AQ := (.block 1 f31b12)
def f31b14 : AQ := (.seq f31b13 (.region f31r3))
def f31b15 : AQ := (.cond (.t 15) .skip (.exit 0))
def f31r16 : List AI := [⟨none, (.mov 14 (.t 6))⟩, ⟨none, (.bin 15 .neq (.t 14) (.v (.k (.c (.int .i64 (-1))))))⟩]
def f31b17 : AQ := (.seq (.region f31r16) f31b15)
def f31b18 : AQ := (.seq f31b17 f31b14)
def f31l19 : AQ := .loop [0, 1, 5, 6] [8, 24] f31b18
def f31b20 : AQ := (.block 0 f31l19)
def f31r21 : List AI := [⟨none, (.mov 9 (.t 0))⟩, ⟨none, (.mov 10 (.t 1))⟩, ⟨none, (.iaddr 11 6 (.t 9) (.t 10))⟩, ⟨none, (.faddr 12 5 (.t 11))⟩, ⟨none, (.load 13 1 false (.t 12))⟩, ⟨none, (.mov 6 (.t 13))⟩]
def f31b22 : AQ := (.seq (.region f31r21) f31b20)
def f31b23 : AQ := (.seq f31b22 f31b2)
def f31r24 : List AI := [⟨none, (.mov 7 (.t 1))⟩, ⟨none, (.bslice 8 3 1 [(.int .i64 0)] 1 [(0, (.t 7))])⟩, ⟨none, (.mov 5 (.t 8))⟩]
def f31b25 : AQ := (.seq (.region f31r24) f31b23)
def f31r26 : List AI := [⟨none, (.nilL 4 3 1)⟩]
def f31b27 : AQ := (.seq (.region f31r26) f31b25)
def f31 : AQ := f31b27
theorem hf31 : cFunc Try.prog 31 = some ⟨39, f31.erase, [(RX.t 4)]⟩ := by kernel_rfl
theorem okf31 : f31.ok = true := by kernel_rfl
def f35r1 : List AI := [⟨none, (.mov 30 (.t 7))⟩, ⟨none, (.mov 6 (.t 30))⟩]
def f35b2 : AQ := (.seq (.region f35r1) .ret)
def f35r3 : List AI := [⟨none, (.mov 26 (.t 8))⟩, ⟨none, (.bslice 27 3 1 [(.int .i64 0)] 1 [(0, (.t 26))])⟩, ⟨none, (.mov 28 (.t 7))⟩, ⟨none, (.append 29 3 1 8 (.t 27) (.t 28))⟩, ⟨none, (.mov 7 (.t 29))⟩]
def f35r4 : List AI := [⟨none, (.nilL 6 3 1)⟩]
def f35b5 : AQ := (.seq (.region f35r4) .ret)
def f35b6 : AQ := (.cond (.t 25) f35b5 .skip)
def f35r7 : List AI := [⟨none, (.mov 23 (.t 8))⟩, ⟨none, (.mov 24 (.t 1))⟩, ⟨none, (.bin 25 .lss (.t 23) (.t 24))⟩]
def f35b8 : AQ := (.seq (.region f35r7) f35b6)
def f35b9 : AQ := (.seq f35b8 (.region f35r3))
def f35r10 : List AI := [⟨none, (.mov 16 (.t 0))⟩, ⟨none, (.mov 17 (.t 7))⟩, ⟨none, (.iaddr 18 1 (.t 17) (.v (.k (.c (.int .i64 0)))))⟩, ⟨none, (.load 19 1 false (.t 18))⟩, ⟨none, (.iaddr 20 6 (.t 16) (.t 19))⟩, ⟨none, (.faddr 21 5 (.t 20))⟩, ⟨none, (.load 22 1 false (.t 21))⟩, ⟨none, (.mov 8 (.t 22))⟩]
def f35b11 : AQ := (.seq (.region f35r10) f35b9)
def f35b12 : AQ := (.block 1 f35b11)
def f35b13 : AQ := (.cond (.t 15) .skip (.exit 0))
def f35r14 : List AI := [⟨none, (.mov 11 (.t 7))⟩, ⟨none, (.iaddr 12 1 (.t 11) (.v (.k (.c (.int .i64 0)))))⟩, ⟨none, (.load 13 1 false (.t 12))⟩, ⟨none, (.mov 14 (.t 1))⟩, ⟨none, (.bin 15 .gtr (.t 13) (.t 14))⟩]
def f35b15 : AQ := (.seq (.region f35r14) f35b13)
def f35b16 : AQ := (.seq f35b15 f35b12)
def f35b17 : AQ := (.frz 27 f35b16)
def f35l18 : AQ := .loop [0, 1, 7] [10, 27, 29] f35b17
def f35b19 : AQ := (.block 0 f35l18)
def f35b20 : AQ := (.seq f35b19 f35b2)
def f35r21 : List AI := [⟨none, (.mov 9 (.t 2))⟩, ⟨none, (.bslice 10 3 1 [(.int .i64 0)] 1 [(0, (.t 9))])⟩, ⟨none, (.mov 7 (.t 10))⟩]
def f35b22 : AQ := (.seq (.region f35r21) (.frz 10 f35b20))
def f35r23 : List AI := [⟨none, (.nilL 6 3 1)⟩]
def f35b24 : AQ := (.seq (.region f35r23) f35b22)
def f35 : AQ := f35b24
theorem hf35 : cFunc Try.prog 35 = some ⟨31, f35.erase, [(RX.t 6)]⟩ := by kernel_rfl
theorem okf35 : f35.ok = true := by kernel_rfl
def f36r1 : List AI := [⟨none, (.mov 6 (.v (.k (.c (.bool true)))))⟩]
def f36b2 : AQ := (.seq (.region f36r1) .ret)
def f36r3 : List AI := [⟨none, (.mov 23 (.t 8))⟩, ⟨none, (.bin 24 .add (.t 23) (.v (.k (.c (.int .i64 1)))))⟩, ⟨none, (.mov 8 (.t 24))⟩]
def f36r4 : List AI := [⟨none, (.mov 31 (.t 9))⟩, ⟨none, (.bin 32 .add (.t 31) (.v (.k (.c (.int .i64 1)))))⟩, ⟨none, (.mov 9 (.t 32))⟩]
def f36r5 : List AI := [⟨none, (.mov 6 (.v (.k (.c (.bool false)))))⟩]
def f36b6 : AQ := (.seq (.region f36r5) .ret)
def f36b7 : AQ := (.cond (.t 51) f36b6 .skip)
def f36r8 : List AI := [⟨none, (.mov 33 (.t 9))⟩, ⟨none, (.mov 34 (.t 8))⟩, ⟨none, (.bin 35 .sub (.t 33) (.t 34))⟩, ⟨none, (.bin 36 .add (.t 35) (.v (.k (.c (.int .i64 1)))))⟩, ⟨none, (.mov 37 (.t 7))⟩, ⟨none, (.len 38 (.t 37))⟩, ⟨none, (.bin 39 .lss (.t 36) (.t 38))⟩, ⟨none, (.mov 40 (.t 39))⟩, ⟨(some (40, true)), (.mov 41 (.t 0))⟩, ⟨(some (40, true)), (.mov 42 (.t 7))⟩, ⟨(some (40, true)), (.mov 43 (.t 8))⟩, ⟨(some (40, true)), (.iaddr 44 1 (.t 42) (.t 43))⟩, ⟨(some (40, true)), (.load 45 1 false (.t 44))⟩, ⟨(some (40, true)), (.mov 46 (.t 7))⟩, ⟨(some (40, true)), (.mov 47 (.t 9))⟩, ⟨(some (40, true)), (.iaddr 48 1 (.t 46) (.t 47))⟩, ⟨(some (40, true)), (.load 49 1 false (.t 48))⟩, ⟨(some (40, true)), (.call (some 50) 47 [(.t 41), (.t 45), (.t 49)])⟩, ⟨none, (.pick 51 (.t 40) (.t 50) (.v (.k (.c (.bool false)))))⟩]
def f36b9 : AQ := (.seq (.draw f36r8 [[], [], [0, 1], [2], [], [4], [3, 5], [6], [7], [7], [7], [9, 10, 7], [11, 7], [7], [7], [13, 14, 7], [15, 7], [8, 12, 16, 7, 7], [7, 17]]) f36b7)
def f36b10 : AQ := (.block 3 f36b9)
def f36b11 : AQ := (.seq f36b10 (.region f36r4))
def f36b12 : AQ := (.cond (.t 30) .skip (.exit 2))
def f36r13 : List AI := [⟨none, (.mov 27 (.t 9))⟩, ⟨none, (.mov 28 (.t 7))⟩, ⟨none, (.len 29 (.t 28))⟩, ⟨none, (.bin 30 .lss (.t 27) (.t 29))⟩]
def f36b14 : AQ := (.seq (.region f36r13) f36b12)
def f36b15 : AQ := (.seq f36b14 f36b11)
def f36l16 : AQ := .loop [0, 7, 8, 9] [18, 19000, 19001, 19002] f36b15
def f36b17 : AQ := (.block 2 f36l16)
def f36r18 : List AI := [⟨none, (.mov 25 (.t 8))⟩, ⟨none, (.bin 26 .add (.t 25) (.v (.k (.c (.int .i64 1)))))⟩, ⟨none, (.mov 9 (.t 26))⟩]
def f36b19 : AQ := (.seq (.region f36r18) f36b17)
def f36b20 : AQ := (.block 1 f36b19)
def f36b21 : AQ := (.seq f36b20 (.region f36r3))
def f36b22 : AQ := (.cond (.t 22) .skip (.exit 0))
def f36r23 : List AI := [⟨none, (.mov 19 (.t 8))⟩, ⟨none, (.mov 20 (.t 7))⟩, ⟨none, (.len 21 (.t 20))⟩, ⟨none, (.bin 22 .lss (.t 19) (.t 21))⟩]
def f36b24 : AQ := (.seq (.region f36r23) f36b22)
def f36b25 : AQ := (.seq f36b24 f36b21)
def f36l26 : AQ := .loop [0, 7, 8] [18, 19000, 19001, 19002] f36b25
def f36b27 : AQ := (.block 0 f36l26)
def f36r28 : List AI := [⟨none, (.mov 8 (.v (.k (.c (.int .i64 0)))))⟩]
def f36b29 : AQ := (.seq (.region f36r28) f36b27)
def f36b30 : AQ := (.seq f36b29 f36b2)
def f36r31 : List AI := [⟨none, (.mov 15 (.t 0))⟩, ⟨none, (.mov 16 (.t 1))⟩, ⟨none, (.mov 17 (.t 2))⟩, ⟨none, (.call (some 18) 35 [(.t 15), (.t 16), (.t 17)])⟩, ⟨none, (.mov 7 (.t 18))⟩]
def f36b32 : AQ := (.seq (.region f36r31) (.frz 18 f36b30))
def f36r33 : List AI := [⟨none, (.mov 6 (.v (.k (.c (.bool false)))))⟩]
def f36b34 : AQ := (.seq (.region f36r33) .ret)
def f36b35 : AQ := (.cond (.t 14) f36b34 .skip)
def f36r36 : List AI := [⟨none, (.mov 10 (.t 0))⟩, ⟨none, (.mov 11 (.t 1))⟩, ⟨none, (.mov 12 (.t 2))⟩, ⟨none, (.call (some 13) 47 [(.t 10), (.t 11), (.t 12)])⟩, ⟨none, (.un 14 .not (.t 13))⟩]
def f36b37 : AQ := (.seq (.region f36r36) f36b35)
def f36b38 : AQ := (.seq f36b37 f36b32)
def f36r39 : List AI := [⟨none, (.mov 6 (.v (.k (.c (.bool false)))))⟩]
def f36b40 : AQ := (.seq (.region f36r39) f36b38)
def f36 : AQ := f36b40
theorem hf36 : cFunc Try.prog 36 = some ⟨52, f36.erase, [(RX.t 6)]⟩ := by kernel_rfl
theorem okf36 : f36.ok = true := by kernel_rfl
def f37r1 : List AI := [⟨none, (.mov 44 (.t 5))⟩, ⟨none, (.mov 4 (.t 44))⟩]
def f37b2 : AQ := (.seq (.region f37r1) .ret)
def f37r3 : List AI := [⟨none, (.mov 40 (.t 5))⟩, ⟨none, (.load 41 3 true (.t 3))⟩, ⟨none, (.bslice 42 25 3 [(.list 0 (some true) []), (.list 0 (some true) []), (.int .i64 0)] 1 [(0, (.t 41))])⟩, ⟨none, (.append 43 25 3 56 (.t 40) (.t 42))⟩, ⟨none, (.mov 5 (.t 43))⟩]
def f37b4 : AQ := (.cond (.t 39) (.region f37r3) .skip)
def f37r5 : List AI := [⟨none, (.mov 38 (.t 6))⟩, ⟨none, (.un 39 .not (.t 38))⟩]
def f37b6 : AQ := (.seq (.region f37r5) f37b4)
def f37b7 : AQ := (.seq f37b6 f37b2)
def f37r8 : List AI := [⟨none, (.mov 13 (.t 7))⟩, ⟨none, (.bin 14 .add (.t 13) (.v (.k (.c (.int .i64 1)))))⟩, ⟨none, (.mov 7 (.t 14))⟩]
def f37r9 : List AI := [⟨none, (.mov 31 (.t 5))⟩, ⟨none, (.mov 32 (.t 0))⟩, ⟨none, (.mov 33 (.t 7))⟩, ⟨none, (.iaddr 34 3 (.t 32) (.t 33))⟩, ⟨none, (.load 35 3 true (.t 34))⟩, ⟨none, (.bslice 36 25 3 [(.list 0 (some true) []), (.list 0 (some true) []), (.int .i64 0)] 1 [(0, (.t 35))])⟩, ⟨none, (.append 37 25 3 56 (.t 31) (.t 36))⟩, ⟨none, (.mov 5 (.t 37))⟩]
def f37r10 : List AI := [⟨none, (.mov 6 (.v (.k (.c (.bool true)))))⟩]
def f37r11 : List AI := [⟨none, (.mov 27 (.t 5))⟩, ⟨none, (.load 28 3 true (.t 3))⟩, ⟨none, (.bslice 29 25 3 [(.list 0 (some true) []), (.list 0 (some true) []), (.int .i64 0)] 1 [(0, (.t 28))])⟩, ⟨none, (.append 30 25 3 56 (.t 27) (.t 29))⟩, ⟨none, (.mov 5 (.t 30))⟩]
def f37b12 : AQ := (.seq (.region f37r11) (.region f37r10))
def f37b13 : AQ := (.cond (.t 26) f37b12 .skip)
def f37r14 : List AI := [⟨none, (.mov 15 (.t 6))⟩, ⟨none, (.un 16 .not (.t 15))⟩, ⟨none, (.mov 17 (.t 16))⟩, ⟨(some (17, true)), (.faddr 18 0 (.t 3))⟩, ⟨(some (17, true)), (.load 19 1 false (.t 18))⟩, ⟨(some (17, true)), (.mov 20 (.t 0))⟩, ⟨(some (17, true)), (.mov 21 (.t 7))⟩, ⟨(some (17, true)), (.iaddr 22 3 (.t 20) (.t 21))⟩, ⟨(some (17, true)), (.faddr 23 0 (.t 22))⟩, ⟨(some (17, true)), (.load 24 1 false (.t 23))⟩, ⟨(some (17, true)), (.call (some 25) 48 [(.t 19), (.t 24)])⟩, ⟨none, (.pick 26 (.t 17) (.t 25) (.v (.k (.c (.bool false)))))⟩]
def f37b15 : AQ := (.seq (.draw f37r14 [[], [0], [1], [2], [3, 2], [2], [2], [5, 6, 2], [7, 2], [8, 2], [4, 9, 2, 2], [2, 10]]) f37b13)
def f37b16 : AQ := (.seq f37b15 (.region f37r9))
def f37b17 : AQ := (.block 1 f37b16)
def f37b18 : AQ := (.seq f37b17 (.region f37r8))
def f37b19 : AQ := (.cond (.t 12) .skip (.exit 0))
def f37r20 : List AI := [⟨none, (.mov 9 (.t 7))⟩, ⟨none, (.mov 10 (.t 0))⟩, ⟨none, (.len 11 (.t 10))⟩, ⟨none, (.bin 12 .lss (.t 9) (.t 11))⟩]
def f37b21 : AQ := (.seq (.region f37r20) f37b19)
def f37b22 : AQ := (.seq f37b21 f37b18)
def f37l23 : AQ := .loop [0, 3, 5, 6, 7] [3, 8, 30, 37, 43] f37b22
def f37b24 : AQ := (.block 0 f37l23)
def f37r25 : List AI := [⟨none, (.mov 7 (.v (.k (.c (.int .i64 0)))))⟩]
def f37b26 : AQ := (.seq (.region f37r25) f37b24)
def f37b27 : AQ := (.seq f37b26 f37b7)
def f37r28 : List AI := [⟨none, (.mov 6 (.v (.k (.c (.bool false)))))⟩]
def f37b29 : AQ := (.seq (.region f37r28) f37b27)
def f37r30 : List AI := [⟨none, (.bslice 8 25 3 [(.list 0 (some true) []), (.list 0 (some true) []), (.int .i64 0)] 0 [])⟩, ⟨none, (.mov 5 (.t 8))⟩]
def f37b31 : AQ := (.seq (.region f37r30) f37b29)
def f37r32 : List AI := [⟨none, (.box 3 25 (.t 1))⟩, ⟨none, (.nilL 4 25 3)⟩]
def f37b33 : AQ := (.seq (.region f37r32) f37b31)
def f37 : AQ := f37b33
theorem hf37 : cFunc Try.prog 37 = some ⟨45, f37.erase, [(RX.t 4)]⟩ := by kernel_rfl
theorem okf37 : f37.ok = true := by kernel_rfl
def f38r1 : List AI := [⟨none, (.mov 5 (.t 0))⟩, ⟨none, (.mov 6 (.t 1))⟩, ⟨none, (.call (some 7) 49 [(.t 5), (.t 6)])⟩, ⟨none, (.bin 8 .geq (.t 7) (.v (.k (.c (.int .i64 0)))))⟩, ⟨none, (.mov 4 (.t 8))⟩]
def f38b2 : AQ := (.seq (.region f38r1) .ret)
def f38r3 : List AI := [⟨none, (.mov 4 (.v (.k (.c (.bool false)))))⟩]
def f38b4 : AQ := (.seq (.region f38r3) f38b2)
def f38 : AQ := f38b4
theorem hf38 : cFunc Try.prog 38 = some ⟨9, f38.erase, [(RX.t 4)]⟩ := by kernel_rfl
theorem okf38 : f38.ok = true := by kernel_rfl
def f39r1 : List AI := [⟨none, (.faddr 4 0 (.t 2))⟩, ⟨none, (.load 5 1 false (.t 4))⟩, ⟨none, (.faddr 6 0 (.t 1))⟩, ⟨none, (.load 7 1 false (.t 6))⟩, ⟨none, (.call (some 8) 40 [(.t 5), (.t 7)])⟩, ⟨none, (.mov 9 (.t 8))⟩, ⟨(some (9, true)), (.faddr 10 1 (.t 2))⟩, ⟨(some (9, true)), (.load 11 1 false (.t 10))⟩, ⟨(some (9, true)), (.faddr 12 1 (.t 1))⟩, ⟨(some (9, true)), (.load 13 1 false (.t 12))⟩, ⟨(some (9, true)), (.call (some 14) 40 [(.t 11), (.t 13)])⟩, ⟨none, (.pick 15 (.t 9) (.t 14) (.v (.k (.c (.bool false)))))⟩, ⟨none, (.mov 16 (.t 15))⟩, ⟨(some (16, true)), (.faddr 17 2 (.t 2))⟩, ⟨(some (16, true)), (.load 18 1 false (.t 17))⟩, ⟨(some (16, true)), (.faddr 19 2 (.t 1))⟩, ⟨(some (16, true)), (.load 20 1 false (.t 19))⟩, ⟨(some (16, true)), (.bin 21 .eql (.t 18) (.t 20))⟩, ⟨none, (.pick 22 (.t 16) (.t 21) (.v (.k (.c (.bool false)))))⟩, ⟨none, (.mov 3 (.t 22))⟩]
def f39b2 : AQ := (.seq (.region f39r1) .ret)
def f39r3 : List AI := [⟨none, (.box 2 25 (.t 0))⟩, ⟨none, (.mov 3 (.v (.k (.c (.bool false)))))⟩]
def f39b4 : AQ := (.seq (.region f39r3) f39b2)
def f39 : AQ := f39b4
theorem hf39 : cFunc Try.prog 39 = some ⟨23, f39.erase, [(RX.t 3)]⟩ := by kernel_rfl
theorem okf39 : f39.ok = true := by kernel_rfl
def f40r1 : List AI := [⟨none, (.mov 4 (.v (.k (.c (.bool true)))))⟩]
def f40b2 : AQ := (.seq (.region f40r1) .ret)
def f40r3 : List AI := [⟨none, (.bin 25 .add (.t 13) (.v (.k (.c (.int .i64 1)))))⟩, ⟨none, (.mov 13 (.t 25))⟩]
def f40r4 : List AI := [⟨none, (.mov 4 (.v (.k (.c (.bool false)))))⟩]
def f40b5 : AQ := (.seq (.region f40r4) .ret)
def f40b6 : AQ := (.cond (.t 24) f40b5 .skip)
def f40r7 : List AI := [⟨none, (.mov 16 (.t 0))⟩, ⟨none, (.mov 17 (.t 5))⟩, ⟨none, (.iaddr 18 1 (.t 16) (.t 17))⟩, ⟨none, (.load 19 1 false (.t 18))⟩, ⟨none, (.mov 20 (.t 1))⟩, ⟨none, (.mov 21 (.t 5))⟩, ⟨none, (.iaddr 22 1 (.t 20) (.t 21))⟩, ⟨none, (.load 23 1 false (.t 22))⟩, ⟨none, (.bin 24 .neq (.t 19) (.t 23))⟩]
def f40b8 : AQ := (.seq (.draw f40r7 [[], [], [0, 1], [2], [], [], [4, 5], [6], [3, 7]]) f40b6)
def f40r9 : List AI := [⟨none, (.mov 15 (.t 13))⟩, ⟨none, (.mov 5 (.t 15))⟩]
def f40b10 : AQ := (.seq (.region f40r9) f40b8)
def f40b11 : AQ := (.block 1 f40b10)
def f40b12 : AQ := (.seq f40b11 (.region f40r3))
def f40b13 : AQ := (.cond (.t 14) .skip (.exit 0))
def f40b14 : AQ := (.seq f40b13 f40b12)
def f40r15 : List AI := [⟨none, (.bin 14 .lss (.t 13) (.t 12))⟩]
def f40b16 : AQ := (.seq (.region f40r15) f40b14)
def f40l17 : AQ := .loop [0, 1, 12, 13] [] f40b16
def f40b18 : AQ := (.block 0 f40l17)
def f40r19 : List AI := [⟨none, (.mov 11 (.t 0))⟩, ⟨none, (.len 12 (.t 11))⟩, ⟨none, (.mov 13 (.v (.k (.c (.int .i64 0)))))⟩]
def f40b20 : AQ := (.seq (.region f40r19) f40b18)
def f40b21 : AQ := (.seq f40b20 f40b2)
def f40r22 : List AI := [⟨none, (.mov 4 (.v (.k (.c (.bool false)))))⟩]
def f40b23 : AQ := (.seq (.region f40r22) .ret)
def f40b24 : AQ := (.cond (.t 10) f40b23 .skip)
def f40r25 : List AI := [⟨none, (.mov 6 (.t 0))⟩, ⟨none, (.len 7 (.t 6))⟩, ⟨none, (.mov 8 (.t 1))⟩, ⟨none, (.len 9 (.t 8))⟩, ⟨none, (.bin 10 .neq (.t 7) (.t 9))⟩]
def f40b26 : AQ := (.seq (.region f40r25) f40b24)
def f40b27 : AQ := (.seq f40b26 f40b21)
def f40r28 : List AI := [⟨none, (.mov 4 (.v (.k (.c (.bool false)))))⟩]
def f40b29 : AQ := (.seq (.region f40r28) f40b27)
def f40 : AQ := f40b29
theorem hf40 : cFunc Try.prog 40 = some ⟨26, f40.erase, [(RX.t 4)]⟩ := by kernel_rfl
theorem okf40 : f40.ok = true := by kernel_rfl
def f41r1 : List AI := [⟨none, (.mov 144 (.t 11))⟩, ⟨none, (.mov 4 (.t 144))⟩]
def f41b2 : AQ := (.seq (.region f41r1) .ret)
def f41r3 : List AI := [⟨none, (.bin 143 .add (.t 51) (.v (.k (.c (.int .i64 1)))))⟩, ⟨none, (.mov 51 (.t 143))⟩]
def f41r4 : List AI := [⟨none, (.mov 111 (.t 16))⟩, ⟨none, (.bin 112 .sub (.t 111) (.v (.k (.c (.int .i64 1)))))⟩, ⟨none, (.mov 16 (.t 112))⟩]
def f41r5 : List AI := [⟨none, (.bin 142 .add (.t 123) (.v (.k (.c (.int .i64 1)))))⟩, ⟨none, (.mov 123 (.t 142))⟩]
def f41r6 : List AI := [⟨none, (.mov 138 (.t 11))⟩, ⟨none, (.mov 139 (.t 18))⟩, ⟨none, (.bslice 140 3 1 [(.int .i64 0)] 1 [(0, (.t 139))])⟩, ⟨none, (.append 141 3 1 8 (.t 138) (.t 140))⟩, ⟨none, (.mov 11 (.t 141))⟩]
def f41b7 : AQ := (.seq (.region f41r6) (.exit 8))
def f41b8 : AQ := (.cond (.t 137) f41b7 .skip)
def f41r9 : List AI := [⟨none, (.mov 127 (.t 18))⟩, ⟨none, (.mov 128 (.t 12))⟩, ⟨none, (.bin 129 .gtr (.t 127) (.t 128))⟩, ⟨none, (.mov 130 (.t 129))⟩, ⟨(some (130, true)), (.mov 131 (.t 10))⟩, ⟨(some (130, true)), (.mov 132 (.t 18))⟩, ⟨(some (130, true)), (.iaddr 133 1 (.t 131) (.t 132))⟩, ⟨(some (130, true)), (.load 134 1 false (.t 133))⟩, ⟨(some (130, true)), (.mov 135 (.t 16))⟩, ⟨(some (130, true)), (.bin 136 .eql (.t 134) (.t 135))⟩, ⟨none, (.pick 137 (.t 130) (.t 136) (.v (.k (.c (.bool false)))))⟩]
def f41b10 : AQ := (.seq (.region f41r9) f41b8)
def f41r11 : List AI := [⟨none, (.iaddr 125 1 (.t 121) (.t 123))⟩, ⟨none, (.load 126 1 false (.t 125))⟩, ⟨none, (.mov 18 (.t 126))⟩]
def f41b12 : AQ := (.seq (.region f41r11) f41b10)
def f41b13 : AQ := (.block 9 f41b12)
def f41b14 : AQ := (.seq f41b13 (.region f41r5))
def f41b15 : AQ := (.cond (.t 124) .skip (.exit 8))
def f41b16 : AQ := (.seq f41b15 f41b14)
def f41r17 : List AI := [⟨none, (.bin 124 .lss (.t 123) (.t 122))⟩]
def f41b18 : AQ := (.seq (.region f41r17) f41b16)
def f41l19 : AQ := .loop [8, 9, 10, 11, 12, 16, 50, 51, 121, 122, 123] [11, 25, 44, 47, 49, 107, 141, 45000, 45001, 45002, 48000, 48001, 48002] f41b18
def f41b20 : AQ := (.block 8 f41l19)
def f41r21 : List AI := [⟨none, (.mov 113 (.t 8))⟩, ⟨none, (.mov 114 (.t 11))⟩, ⟨none, (.mov 115 (.t 11))⟩, ⟨none, (.len 116 (.t 115))⟩, ⟨none, (.bin 117 .sub (.t 116) (.v (.k (.c (.int .i64 1)))))⟩, ⟨none, (.iaddr 118 1 (.t 114) (.t 117))⟩, ⟨none, (.load 119 1 false (.t 118))⟩, ⟨none, (.iaddr 120 1 (.t 113) (.t 119))⟩, ⟨none, (.load 121 1 false (.t 120))⟩, ⟨none, (.len 122 (.t 121))⟩, ⟨none, (.mov 123 (.v (.k (.c (.int .i64 0)))))⟩]
def f41b22 : AQ := (.seq (.region f41r21) f41b20)
def f41b23 : AQ := (.block 7 f41b22)
def f41b24 : AQ := (.seq f41b23 (.region f41r4))
def f41b25 : AQ := (.cond (.t 110) .skip (.exit 6))
def f41r26 : List AI := [⟨none, (.mov 109 (.t 16))⟩, ⟨none, (.bin 110 .gtr (.t 109) (.v (.k (.c (.int .i64 1)))))⟩]
def f41b27 : AQ := (.seq (.region f41r26) f41b25)
def f41b28 : AQ := (.seq f41b27 f41b24)
def f41l29 : AQ := .loop [8, 9, 10, 11, 12, 16, 50, 51] [11, 25, 44, 47, 49, 107, 141, 45000, 45001, 45002, 48000, 48001, 48002] f41b28
def f41b30 : AQ := (.block 6 f41l29)
def f41r31 : List AI := [⟨none, (.mov 108 (.t 13))⟩, ⟨none, (.mov 16 (.t 108))⟩]
def f41b32 : AQ := (.seq (.region f41r31) f41b30)
def f41r33 : List AI := [⟨none, (.mov 106 (.t 12))⟩, ⟨none, (.bslice 107 3 1 [(.int .i64 0)] 1 [(0, (.t 106))])⟩, ⟨none, (.mov 11 (.t 107))⟩]
def f41b34 : AQ := (.seq (.region f41r33) f41b32)
def f41b35 : AQ := (.cond (.t 105) (.exit 3) .skip)
def f41r36 : List AI := [⟨none, (.mov 94 (.t 13))⟩, ⟨none, (.bin 95 .eql (.t 94) (.v (.k (.c (.int .i64 0)))))⟩, ⟨none, (.mov 96 (.t 95))⟩, ⟨(some (96, false)), (.mov 97 (.t 11))⟩, ⟨(some (96, false)), (.nilcmp 98 true (.t 97))⟩, ⟨(some (96, false)), (.mov 99 (.t 98))⟩, ⟨(some (99, true)), (.mov 100 (.t 13))⟩, ⟨(some (99, true)), (.mov 101 (.t 11))⟩, ⟨(some (99, true)), (.len 102 (.t 101))⟩, ⟨(some (99, true)), (.bin 103 .geq (.t 100) (.t 102))⟩, ⟨(some (96, false)), (.pick 104 (.t 99) (.t 103) (.v (.k (.c (.bool false)))))⟩, ⟨none, (.pick 105 (.t 96) (.v (.k (.c (.bool true)))) (.t 104))⟩]
def f41b37 : AQ := (.seq (.region f41r36) f41b35)
def f41b38 : AQ := (.seq f41b37 (.keep [8, 9, 10, 12, 13, 50, 51] [25, 44, 47, 49, 45000, 45001, 45002, 48000, 48001, 48002] f41b34))
def f41r39 : List AI := [⟨none, (.bin 93 .add (.t 63) (.v (.k (.c (.int .i64 1)))))⟩, ⟨none, (.mov 63 (.t 93))⟩]
def f41r40 : List AI := [⟨none, (.mov 89 (.t 10))⟩, ⟨none, (.mov 90 (.t 15))⟩, ⟨none, (.iaddr 91 1 (.t 89) (.t 90))⟩, ⟨none, (.load 92 1 false (.t 91))⟩, ⟨none, (.mov 13 (.t 92))⟩]
def f41b41 : AQ := (.cond (.t 88) (.region f41r40) .skip)
def f41r42 : List AI := [⟨none, (.mov 67 (.t 15))⟩, ⟨none, (.mov 68 (.t 12))⟩, ⟨none, (.bin 69 .geq (.t 67) (.t 68))⟩, ⟨none, (.mov 70 (.t 69))⟩, ⟨(some (70, true)), (.mov 71 (.t 10))⟩, ⟨(some (70, true)), (.mov 72 (.t 15))⟩, ⟨(some (70, true)), (.iaddr 73 1 (.t 71) (.t 72))⟩, ⟨(some (70, true)), (.load 74 1 false (.t 73))⟩, ⟨(some (70, true)), (.bin 75 .gtr (.t 74) (.v (.k (.c (.int .i64 0)))))⟩, ⟨none, (.pick 76 (.t 70) (.t 75) (.v (.k (.c (.bool false)))))⟩, ⟨none, (.mov 77 (.t 76))⟩, ⟨(some (77, true)), (.mov 78 (.t 13))⟩, ⟨(some (77, true)), (.bin 79 .eql (.t 78) (.v (.k (.c (.int .i64 0)))))⟩, ⟨(some (77, true)), (.mov 80 (.t 79))⟩, ⟨(some (80, false)), (.mov 81 (.t 10))⟩, ⟨(some (80, false)), (.mov 82 (.t 15))⟩, ⟨(some (80, false)), (.iaddr 83 1 (.t 81) (.t 82))⟩, ⟨(some (80, false)), (.load 84 1 false (.t 83))⟩, ⟨(some (80, false)), (.mov 85 (.t 13))⟩, ⟨(some (80, false)), (.bin 86 .lss (.t 84) (.t 85))⟩, ⟨(some (77, true)), (.pick 87 (.t 80) (.v (.k (.c (.bool true)))) (.t 86))⟩, ⟨none, (.pick 88 (.t 77) (.t 87) (.v (.k (.c (.bool false)))))⟩]
def f41b43 : AQ := (.seq (.region f41r42) f41b41)
def f41r44 : List AI := [⟨none, (.iaddr 65 1 (.t 61) (.t 63))⟩, ⟨none, (.load 66 1 false (.t 65))⟩, ⟨none, (.mov 15 (.t 66))⟩]
def f41b45 : AQ := (.seq (.region f41r44) f41b43)
def f41b46 : AQ := (.block 5 f41b45)
def f41b47 : AQ := (.seq f41b46 (.region f41r39))
def f41b48 : AQ := (.cond (.t 64) .skip (.exit 4))
def f41b49 : AQ := (.seq f41b48 f41b47)
def f41r50 : List AI := [⟨none, (.bin 64 .lss (.t 63) (.t 62))⟩]
def f41b51 : AQ := (.seq (.region f41r50) f41b49)
def f41l52 : AQ := .loop [8, 9, 10, 11, 12, 13, 50, 51, 61, 62, 63] [11, 25, 44, 47, 49, 107, 141, 45000, 45001, 45002, 48000, 48001, 48002] f41b51
def f41b53 : AQ := (.block 4 f41l52)
def f41r54 : List AI := [⟨none, (.mov 58 (.t 8))⟩, ⟨none, (.mov 59 (.t 12))⟩, ⟨none, (.iaddr 60 1 (.t 58) (.t 59))⟩, ⟨none, (.load 61 1 false (.t 60))⟩, ⟨none, (.len 62 (.t 61))⟩, ⟨none, (.mov 63 (.v (.k (.c (.int .i64 0)))))⟩]
def f41b55 : AQ := (.seq (.region f41r54) f41b53)
def f41b56 : AQ := (.seq f41b55 f41b38)
def f41r57 : List AI := [⟨none, (.mov 13 (.v (.k (.c (.int .i64 0)))))⟩]
def f41b58 : AQ := (.seq (.region f41r57) f41b56)
def f41r59 : List AI := [⟨none, (.mov 54 (.t 9))⟩, ⟨none, (.mov 55 (.t 12))⟩, ⟨none, (.mov 56 (.t 10))⟩, ⟨none, (.call (some 57) 52 [(.t 54), (.t 55), (.t 56)])⟩]
def f41b60 : AQ := (.seq (.region f41r59) f41b58)
def f41r61 : List AI := [⟨none, (.mov 53 (.t 51))⟩, ⟨none, (.mov 12 (.t 53))⟩]
def f41b62 : AQ := (.seq (.region f41r61) f41b60)
def f41b63 : AQ := (.block 3 f41b62)
def f41b64 : AQ := (.seq f41b63 (.region f41r3))
def f41b65 : AQ := (.cond (.t 52) .skip (.exit 2))
def f41b66 : AQ := (.seq f41b65 f41b64)
def f41r67 : List AI := [⟨none, (.bin 52 .lss (.t 51) (.t 50))⟩]
def f41b68 : AQ := (.seq (.region f41r67) f41b66)
def f41l69 : AQ := .loop [8, 9, 10, 11, 50, 51] [11, 25, 44, 47, 49, 107, 141, 45000, 45001, 45002, 48000, 48001, 48002] f41b68
def f41b70 : AQ := (.block 2 f41l69)
def f41r71 : List AI := [⟨none, (.mov 50 (.t 0))⟩, ⟨none, (.mov 51 (.v (.k (.c (.int .i64 0)))))⟩]
def f41b72 : AQ := (.seq (.region f41r71) f41b70)
def f41b73 : AQ := (.seq f41b72 f41b2)
def f41r74 : List AI := [⟨none, (.nilL 11 3 1)⟩]
def f41b75 : AQ := (.seq (.region f41r74) f41b73)
def f41r76 : List AI := [⟨none, (.mov 48 (.t 0))⟩, ⟨none, (.mkslice 49 3 1 8 [(.int .i64 0)] (.t 48) (.t 48))⟩, ⟨none, (.mov 10 (.t 49))⟩]
def f41b77 : AQ := (.seq (.region f41r76) f41b75)
def f41r78 : List AI := [⟨none, (.mov 42 (.t 0))⟩, ⟨none, (.mov 43 (.t 1))⟩, ⟨none, (.call (some 44) 51 [(.t 42), (.t 43)])⟩, ⟨none, (.mov 45 (.t 0))⟩, ⟨none, (.mov 46 (.t 5))⟩, ⟨none, (.call (some 47) 51 [(.t 45), (.t 46)])⟩, ⟨none, (.mov 8 (.t 44))⟩, ⟨none, (.mov 9 (.t 47))⟩]
def f41b79 : AQ := (.seq (.region f41r78) (.frz 47 (.frz 44 f41b77)))
def f41r80 : List AI := [⟨none, (.bin 41 .add (.t 28) (.v (.k (.c (.int .i64 1)))))⟩, ⟨none, (.mov 28 (.t 41))⟩]
def f41r81 : List AI := [⟨none, (.mov 33 (.t 5))⟩, ⟨none, (.mov 34 (.t 6))⟩, ⟨none, (.iaddrA 35 1 2 (.t 7) (.v (.k (.c (.int .i64 1)))))⟩, ⟨none, (.load 36 1 false (.t 35))⟩, ⟨none, (.iaddrA 37 1 2 (.t 7) (.v (.k (.c (.int .i64 0)))))⟩, ⟨none, (.load 38 1 false (.t 37))⟩, ⟨none, (.build 39 [(.int .i64 0), (.int .i64 0)] [(0, (1, (.t 36))), (1, (1, (.t 38)))])⟩, ⟨none, (.iaddr 40 2 (.t 33) (.t 34))⟩, ⟨none, (.store 2 (.t 40) (.t 39))⟩]
def f41r82 : List AI := [⟨none, (.mov 30 (.t 28))⟩, ⟨none, (.iaddr 31 2 (.t 26) (.t 28))⟩, ⟨none, (.load 32 2 true (.t 31))⟩, ⟨none, (.alloc 7 59 [(.int .i64 0), (.int .i64 0)])⟩, ⟨none, (.mov 6 (.t 30))⟩, ⟨none, (.store 2 (.t 7) (.t 32))⟩]
def f41b83 : AQ := (.seq (.region f41r82) (.region f41r81))
def f41b84 : AQ := (.block 1 f41b83)
def f41b85 : AQ := (.seq f41b84 (.region f41r80))
def f41b86 : AQ := (.cond (.t 29) .skip (.exit 0))
def f41b87 : AQ := (.seq f41b86 f41b85)
def f41r88 : List AI := [⟨none, (.bin 29 .lss (.t 28) (.t 27))⟩]
def f41b89 : AQ := (.seq (.region f41r88) f41b87)
def f41l90 : AQ := .loop [0, 1, 5, 26, 27, 28] [25] f41b89
def f41b91 : AQ := (.block 0 f41l90)
def f41r92 : List AI := [⟨none, (.mov 26 (.t 1))⟩, ⟨none, (.len 27 (.t 26))⟩, ⟨none, (.mov 28 (.v (.k (.c (.int .i64 0)))))⟩]
def f41b93 : AQ := (.seq (.region f41r92) f41b91)
def f41b94 : AQ := (.seq f41b93 (.frz 25 f41b79))
def f41r95 : List AI := [⟨none, (.mov 23 (.t 1))⟩, ⟨none, (.len 24 (.t 23))⟩, ⟨none, (.mkslice 25 59 2 16 [(.int .i64 0), (.int .i64 0)] (.t 24) (.t 24))⟩, ⟨none, (.mov 5 (.t 25))⟩]
def f41b96 : AQ := (.seq (.region f41r95) f41b94)
def f41r97 : List AI := [⟨none, (.nilL 4 3 1)⟩]
def f41b98 : AQ := (.seq (.region f41r97) .ret)
def f41b99 : AQ := (.cond (.t 22) f41b98 .skip)
def f41r100 : List AI := [⟨none, (.mov 19 (.t 0))⟩, ⟨none, (.mov 20 (.t 1))⟩, ⟨none, (.call (some 21) 50 [(.t 19), (.t 20)])⟩, ⟨none, (.un 22 .not (.t 21))⟩]
def f41b101 : AQ := (.seq (.region f41r100) f41b99)
def f41b102 : AQ := (.seq f41b101 f41b96)
def f41r103 : List AI := [⟨none, (.nilL 4 3 1)⟩]
def f41b104 : AQ := (.seq (.region f41r103) f41b102)
def f41 : AQ := f41b104
theorem hf41 : cFunc Try.prog 41 = some ⟨145, f41.erase, [(RX.t 4)]⟩ := by kernel_rfl
theorem okf41 : f41.ok = true := by kernel_rfl
def f42r1 : List AI := [⟨none, (.nilL 4 3 1)⟩]
def f42b2 : AQ := (.seq (.region f42r1) .ret)
def f42r3 : List AI := [⟨none, (.mov 15 (.t 5))⟩, ⟨none, (.bin 16 .add (.t 15) (.v (.k (.c (.int .i64 1)))))⟩, ⟨none, (.mov 5 (.t 16))⟩]
def f42r4 : List AI := [⟨none, (.mov 20 (.t 6))⟩, ⟨none, (.bin 21 .add (.t 20) (.v (.k (.c (.int .i64 1)))))⟩, ⟨none, (.mov 6 (.t 21))⟩]
def f42r5 : List AI := [⟨none, (.mov 32 (.t 7))⟩, ⟨none, (.mov 4 (.t 32))⟩]
def f42b6 : AQ := (.seq (.region f42r5) .ret)
def f42b7 : AQ := (.cond (.t 31) f42b6 .skip)
def f42r8 : List AI := [⟨none, (.mov 29 (.t 7))⟩, ⟨none, (.len 30 (.t 29))⟩, ⟨none, (.bin 31 .gtr (.t 30) (.v (.k (.c (.int .i64 0)))))⟩]
def f42b9 : AQ := (.seq (.region f42r8) f42b7)
def f42r10 : List AI := [⟨none, (.mov 22 (.t 0))⟩, ⟨none, (.mov 23 (.t 1))⟩, ⟨none, (.mov 24 (.t 6))⟩, ⟨none, (.bslice 25 3 1 [(.int .i64 0)] 1 [(0, (.t 24))])⟩, ⟨none, (.mov 26 (.t 5))⟩, ⟨none, (.bin 27 .sub (.t 26) (.v (.k (.c (.int .i64 1)))))⟩, ⟨none, (.call (some 28) 54 [(.t 22), (.t 23), (.t 25), (.t 27)])⟩, ⟨none, (.mov 7 (.t 28))⟩]
def f42b11 : AQ := (.seq (.region f42r10) f42b9)
def f42b12 : AQ := (.block 3 f42b11)
def f42b13 : AQ := (.seq f42b12 (.region f42r4))
def f42b14 : AQ := (.cond (.t 19) .skip (.exit 2))
def f42r15 : List AI := [⟨none, (.mov 17 (.t 6))⟩, ⟨none, (.mov 18 (.t 0))⟩, ⟨none, (.bin 19 .lss (.t 17) (.t 18))⟩]
def f42b16 : AQ := (.seq (.region f42r15) f42b14)
def f42b17 : AQ := (.seq f42b16 f42b13)
def f42l18 : AQ := .loop [0, 1, 5, 6] [] f42b17
def f42b19 : AQ := (.block 2 f42l18)
def f42r20 : List AI := [⟨none, (.mov 6 (.v (.k (.c (.int .i64 0)))))⟩]
def f42b21 : AQ := (.seq (.region f42r20) f42b19)
def f42b22 : AQ := (.block 1 f42b21)
def f42b23 : AQ := (.seq f42b22 (.region f42r3))
def f42b24 : AQ := (.cond (.t 14) .skip (.exit 0))
def f42r25 : List AI := [⟨none, (.mov 12 (.t 5))⟩, ⟨none, (.mov 13 (.t 0))⟩, ⟨none, (.bin 14 .leq (.t 12) (.t 13))⟩]
def f42b26 : AQ := (.seq (.region f42r25) f42b24)
def f42b27 : AQ := (.seq f42b26 f42b23)
def f42l28 : AQ := .loop [0, 1, 5] [] f42b27
def f42b29 : AQ := (.block 0 f42l28)
def f42r30 : List AI := [⟨none, (.mov 5 (.v (.k (.c (.int .i64 1)))))⟩]
def f42b31 : AQ := (.seq (.region f42r30) f42b29)
def f42b32 : AQ := (.seq f42b31 f42b2)
def f42r33 : List AI := [⟨none, (.nilL 4 3 1)⟩]
def f42b34 : AQ := (.seq (.region f42r33) .ret)
def f42b35 : AQ := (.cond (.t 11) f42b34 .skip)
def f42r36 : List AI := [⟨none, (.mov 8 (.t 0))⟩, ⟨none, (.mov 9 (.t 1))⟩, ⟨none, (.call (some 10) 53 [(.t 8), (.t 9)])⟩, ⟨none, (.un 11 .not (.t 10))⟩]
def f42b37 : AQ := (.seq (.region f42r36) f42b35)
def f42b38 : AQ := (.seq f42b37 f42b32)
def f42r39 : List AI := [⟨none, (.nilL 4 3 1)⟩]
def f42b40 : AQ := (.seq (.region f42r39) f42b38)
def f42 : AQ := f42b40
theorem hf42 : cFunc Try.prog 42 = some ⟨33, f42.erase, [(RX.t 4)]⟩ := by kernel_rfl
theorem okf42 : f42.ok = true := by kernel_rfl
def f47r1 : List AI := [⟨none, (.mov 7 (.t 0))⟩, ⟨none, (.mov 8 (.t 1))⟩, ⟨none, (.mov 9 (.t 2))⟩, ⟨none, (.call (some 10) 35 [(.t 7), (.t 8), (.t 9)])⟩, ⟨none, (.len 11 (.t 10))⟩, ⟨none, (.bin 12 .gtr (.t 11) (.v (.k (.c (.int .i64 1)))))⟩, ⟨none, (.mov 13 (.t 12))⟩, ⟨(some (13, true)), (.mov 14 (.t 0))⟩, ⟨(some (13, true)), (.mov 15 (.t 2))⟩, ⟨(some (13, true)), (.iaddr 16 6 (.t 14) (.t 15))⟩, ⟨(some (13, true)), (.faddr 17 1 (.t 16))⟩, ⟨(some (13, true)), (.load 18 1 false (.t 17))⟩, ⟨(some (13, true)), (.mov 19 (.t 0))⟩, ⟨(some (13, true)), (.mov 20 (.t 1))⟩, ⟨(some (13, true)), (.iaddr 21 6 (.t 19) (.t 20))⟩, ⟨(some (13, true)), (.faddr 22 0 (.t 21))⟩, ⟨(some (13, true)), (.load 23 1 false (.t 22))⟩, ⟨(some (13, true)), (.bin 24 .eql (.t 18) (.t 23))⟩, ⟨none, (.pick 25 (.t 13) (.t 24) (.v (.k (.c (.bool false)))))⟩, ⟨none, (.mov 6 (.t 25))⟩]
def f47b2 : AQ := (.seq (.draw f47r1 [[], [], [], [0, 1, 2], [3], [4], [5, 3], [6], [6], [7, 8, 6], [9, 6], [10, 6], [6], [6], [12, 13, 6], [14, 6], [15, 6], [11, 16, 6], [6, 17], [18, 6, 0, 1, 2, 3, 4, 5, 6, 7, 8, 9, 10, 11, 12, 13, 14, 15, 16, 17, 18]]) .ret)
def f47r3 : List AI := [⟨none, (.mov 6 (.v (.k (.c (.bool false)))))⟩]
def f47b4 : AQ := (.seq (.region f47r3) f47b2)
def f47 : AQ := f47b4
theorem hf47 : cFunc Try.prog 47 = some ⟨26, f47.erase, [(RX.t 6)]⟩ := by kernel_rfl
theorem okf47 : f47.ok = true := by kernel_rfl
def f48r1 : List AI := [⟨none, (.mov 4 (.v (.k (.c (.bool false)))))⟩]
def f48b2 : AQ := (.seq (.region f48r1) .ret)
def f48r3 : List AI := [⟨none, (.mov 16 (.t 5))⟩, ⟨none, (.bin 17 .add (.t 16) (.v (.k (.c (.int .i64 1)))))⟩, ⟨none, (.mov 5 (.t 17))⟩]
def f48r4 : List AI := [⟨none, (.mov 27 (.t 0))⟩, ⟨none, (.mov 28 (.t 5))⟩, ⟨none, (.iaddr 29 1 (.t 27) (.t 28))⟩, ⟨none, (.load 30 1 false (.t 29))⟩, ⟨none, (.mov 31 (.t 1))⟩, ⟨none, (.mov 32 (.t 5))⟩, ⟨none, (.iaddr 33 1 (.t 31) (.t 32))⟩, ⟨none, (.load 34 1 false (.t 33))⟩, ⟨none, (.bin 35 .lss (.t 30) (.t 34))⟩, ⟨none, (.mov 4 (.t 35))⟩]
def f48b5 : AQ := (.seq (.draw f48r4 [[], [], [0, 1], [2], [], [], [4, 5], [6], [3, 7], [8, 0, 1, 2, 3, 4, 5, 6, 7, 8]]) .ret)
def f48b6 : AQ := (.cond (.t 26) f48b5 .skip)
def f48r7 : List AI := [⟨none, (.mov 18 (.t 0))⟩, ⟨none, (.mov 19 (.t 5))⟩, ⟨none, (.iaddr 20 1 (.t 18) (.t 19))⟩, ⟨none, (.load 21 1 false (.t 20))⟩, ⟨none, (.mov 22 (.t 1))⟩, ⟨none, (.mov 23 (.t 5))⟩, ⟨none, (.iaddr 24 1 (.t 22) (.t 23))⟩, ⟨none, (.load 25 1 false (.t 24))⟩, ⟨none, (.bin 26 .neq (.t 21) (.t 25))⟩]
def f48b8 : AQ := (.seq (.draw f48r7 [[], [], [0, 1], [2], [], [], [4, 5], [6], [3, 7]]) f48b6)
def f48b9 : AQ := (.block 1 f48b8)
def f48b10 : AQ := (.seq f48b9 (.region f48r3))
def f48b11 : AQ := (.cond (.t 15) .skip (.exit 0))
def f48r12 : List AI := [⟨none, (.mov 6 (.t 5))⟩, ⟨none, (.mov 7 (.t 0))⟩, ⟨none, (.len 8 (.t 7))⟩, ⟨none, (.bin 9 .lss (.t 6) (.t 8))⟩, ⟨none, (.mov 10 (.t 9))⟩, ⟨(some (10, true)), (.mov 11 (.t 5))⟩, ⟨(some (10, true)), (.mov 12 (.t 1))⟩, ⟨(some (10, true)), (.len 13 (.t 12))⟩, ⟨(some (10, true)), (.bin 14 .lss (.t 11) (.t 13))⟩, ⟨none, (.pick 15 (.t 10) (.t 14) (.v (.k (.c (.bool false)))))⟩]
def f48b13 : AQ := (.seq (.region f48r12) f48b11)
def f48b14 : AQ := (.seq f48b13 f48b10)
def f48l15 : AQ := .loop [0, 1, 5] [] f48b14
def f48b16 : AQ := (.block 0 f48l15)
def f48r17 : List AI := [⟨none, (.mov 5 (.v (.k (.c (.int .i64 0)))))⟩]
def f48b18 : AQ := (.seq (.region f48r17) f48b16)
def f48b19 : AQ := (.seq f48b18 f48b2)
def f48r20 : List AI := [⟨none, (.mov 4 (.v (.k (.c (.bool false)))))⟩]
def f48b21 : AQ := (.seq (.region f48r20) f48b19)
def f48 : AQ := f48b21
theorem hf48 : cFunc Try.prog 48 = some ⟨36, f48.erase, [(RX.t 4)]⟩ := by kernel_rfl
theorem okf48 : f48.ok = true := by kernel_rfl
def f49r1 : List AI := [⟨none, (.mov 4 (.v (.k (.c (.int .i64 (-1))))))⟩]
def f49b2 : AQ := (.seq (.region f49r1) .ret)
def f49r3 : List AI := [⟨none, (.bin 18 .add (.t 8) (.v (.k (.c (.int .i64 1)))))⟩, ⟨none, (.mov 8 (.t 18))⟩]
def f49r4 : List AI := [⟨none, (.mov 17 (.t 5))⟩, ⟨none, (.mov 4 (.t 17))⟩]
def f49b5 : AQ := (.seq (.region f49r4) .ret)
def f49b6 : AQ := (.cond (.t 16) f49b5 .skip)
def f49r7 : List AI := [⟨none, (.mov 11 (.t 1))⟩, ⟨none, (.mov 12 (.t 0))⟩, ⟨none, (.mov 13 (.t 5))⟩, ⟨none, (.iaddr 14 3 (.t 12) (.t 13))⟩, ⟨none, (.load 15 3 true (.t 14))⟩, ⟨none, (.callv (some 16) (.t 11) [(.t 15)])⟩]
def f49b8 : AQ := (.seq (.region f49r7) f49b6)
def f49r9 : List AI := [⟨none, (.mov 10 (.t 8))⟩, ⟨none, (.mov 5 (.t 10))⟩]
def f49b10 : AQ := (.seq (.region f49r9) f49b8)
def f49b11 : AQ := (.block 1 f49b10)
def f49b12 : AQ := (.seq f49b11 (.region f49r3))
def f49b13 : AQ := (.cond (.t 9) .skip (.exit 0))
def f49b14 : AQ := (.seq f49b13 f49b12)
def f49r15 : List AI := [⟨none, (.bin 9 .lss (.t 8) (.t 7))⟩]
def f49b16 : AQ := (.seq (.region f49r15) f49b14)
def f49l17 : AQ := .loop [0, 1, 7, 8] [] f49b16
def f49b18 : AQ := (.block 0 f49l17)
def f49r19 : List AI := [⟨none, (.mov 6 (.t 0))⟩, ⟨none, (.len 7 (.t 6))⟩, ⟨none, (.mov 8 (.v (.k (.c (.int .i64 0)))))⟩]
def f49b20 : AQ := (.seq (.region f49r19) f49b18)
def f49b21 : AQ := (.seq f49b20 f49b2)
def f49r22 : List AI := [⟨none, (.mov 4 (.v (.k (.c (.int .i64 0)))))⟩]
def f49b23 : AQ := (.seq (.region f49r22) f49b21)
def f49 : AQ := f49b23
theorem hf49 : cFunc Try.prog 49 = some ⟨19, f49.erase, [(RX.t 4)]⟩ := by kernel_rfl
theorem okf49 : f49.ok = true := by kernel_rfl
def f50r1 : List AI := [⟨none, (.mov 4 (.v (.k (.c (.bool true)))))⟩]
def f50b2 : AQ := (.seq (.region f50r1) .ret)
def f50r3 : List AI := [⟨none, (.bin 44 .add (.t 20) (.v (.k (.c (.int .i64 1)))))⟩, ⟨none, (.mov 20 (.t 44))⟩]
def f50r4 : List AI := [⟨none, (.mov 4 (.v (.k (.c (.bool false)))))⟩]
def f50b5 : AQ := (.seq (.region f50r4) .ret)
def f50b6 : AQ := (.cond (.t 43) f50b5 .skip)
def f50r7 : List AI := [⟨none, (.iaddrA 24 1 2 (.t 6) (.v (.k (.c (.int .i64 0)))))⟩, ⟨none, (.load 25 1 false (.t 24))⟩, ⟨none, (.bin 26 .lss (.t 25) (.v (.k (.c (.int .i64 0)))))⟩, ⟨none, (.mov 27 (.t 26))⟩, ⟨(some (27, false)), (.iaddrA 28 1 2 (.t 6) (.v (.k (.c (.int .i64 0)))))⟩, ⟨(some (27, false)), (.load 29 1 false (.t 28))⟩, ⟨(some (27, false)), (.mov 30 (.t 0))⟩, ⟨(some (27, false)), (.bin 31 .geq (.t 29) (.t 30))⟩, ⟨none, (.pick 32 (.t 27) (.v (.k (.c (.bool true)))) (.t 31))⟩, ⟨none, (.mov 33 (.t 32))⟩, ⟨(some (33, false)), (.iaddrA 34 1 2 (.t 6) (.v (.k (.c (.int .i64 1)))))⟩, ⟨(some (33, false)), (.load 35 1 false (.t 34))⟩, ⟨(some (33, false)), (.bin 36 .lss (.t 35) (.v (.k (.c (.int .i64 0)))))⟩, ⟨none, (.pick 37 (.t 33) (.v (.k (.c (.bool true)))) (.t 36))⟩, ⟨none, (.mov 38 (.t 37))⟩, ⟨(some (38, false)), (.iaddrA 39 1 2 (.t 6) (.v (.k (.c (.int .i64 1)))))⟩, ⟨(some (38, false)), (.load 40 1 false (.t 39))⟩, ⟨(some (38, false)), (.mov 41 (.t 0))⟩, ⟨(some (38, false)), (.bin 42 .geq (.t 40) (.t 41))⟩, ⟨none, (.pick 43 (.t 38) (.v (.k (.c (.bool true)))) (.t 42))⟩]
def f50b8 : AQ := (.seq (.region f50r7) f50b6)
def f50r9 : List AI := [⟨none, (.iaddr 22 2 (.t 18) (.t 20))⟩, ⟨none, (.load 23 2 true (.t 22))⟩, ⟨none, (.alloc 6 59 [(.int .i64 0), (.int .i64 0)])⟩, ⟨none, (.store 2 (.t 6) (.t 23))⟩]
def f50b10 : AQ := (.seq (.region f50r9) f50b8)
def f50b11 : AQ := (.block 1 f50b10)
def f50b12 : AQ := (.seq f50b11 (.region f50r3))
def f50b13 : AQ := (.cond (.t 21) .skip (.exit 0))
def f50b14 : AQ := (.seq f50b13 f50b12)
def f50r15 : List AI := [⟨none, (.bin 21 .lss (.t 20) (.t 19))⟩]
def f50b16 : AQ := (.seq (.region f50r15) f50b14)
def f50l17 : AQ := .loop [0, 18, 19, 20] [] f50b16
def f50b18 : AQ := (.block 0 f50l17)
def f50r19 : List AI := [⟨none, (.mov 18 (.t 1))⟩, ⟨none, (.len 19 (.t 18))⟩, ⟨none, (.mov 20 (.v (.k (.c (.int .i64 0)))))⟩]
def f50b20 : AQ := (.seq (.region f50r19) f50b18)
def f50b21 : AQ := (.seq f50b20 f50b2)
def f50r22 : List AI := [⟨none, (.mov 4 (.v (.k (.c (.bool false)))))⟩]
def f50b23 : AQ := (.seq (.region f50r22) .ret)
def f50b24 : AQ := (.cond (.t 17) f50b23 .skip)
def f50r25 : List AI := [⟨none, (.mov 7 (.t 0))⟩, ⟨none, (.bin 8 .lss (.t 7) (.v (.k (.c (.int .i64 0)))))⟩, ⟨none, (.mov 9 (.t 8))⟩, ⟨(some (9, false)), (.mov 10 (.t 0))⟩, ⟨(some (9, false)), (.bin 11 .gtr (.t 10) (.v (.k (.c (.int .i64 300)))))⟩, ⟨none, (.pick 12 (.t 9) (.v (.k (.c (.bool true)))) (.t 11))⟩, ⟨none, (.mov 13 (.t 12))⟩, ⟨(some (13, false)), (.mov 14 (.t 1))⟩, ⟨(some (13, false)), (.len 15 (.t 14))⟩, ⟨(some (13, false)), (.bin 16 .gtr (.t 15) (.v (.k (.c (.int .i64 2000)))))⟩, ⟨none, (.pick 17 (.t 13) (.v (.k (.c (.bool true)))) (.t 16))⟩]
def f50b26 : AQ := (.seq (.region f50r25) f50b24)
def f50b27 : AQ := (.seq f50b26 f50b21)
def f50r28 : List AI := [⟨none, (.mov 4 (.v (.k (.c (.bool false)))))⟩]
def f50b29 : AQ := (.seq (.region f50r28) f50b27)
def f50 : AQ := f50b29
theorem hf50 : cFunc Try.prog 50 = some ⟨45, f50.erase, [(RX.t 4)]⟩ := by kernel_rfl
theorem okf50 : f50.ok = true := by kernel_rfl
def f53r1 : List AI := [⟨none, (.mov 4 (.v (.k (.c (.bool true)))))⟩]
def f53b2 : AQ := (.seq (.region f53r1) .ret)
def f53r3 : List AI := [⟨none, (.mov 21 (.t 5))⟩, ⟨none, (.bin 22 .add (.t 21) (.v (.k (.c (.int .i64 1)))))⟩, ⟨none, (.mov 5 (.t 22))⟩]
def f53r4 : List AI := [⟨none, (.mov 4 (.v (.k (.c (.bool false)))))⟩]
def f53b5 : AQ := (.seq (.region f53r4) .ret)
def f53b6 : AQ := (.cond (.t 54) f53b5 .skip)
def f53r7 : List AI := [⟨none, (.mov 23 (.t 1))⟩, ⟨none, (.mov 24 (.t 5))⟩, ⟨none, (.iaddr 25 2 (.t 23) (.t 24))⟩, ⟨none, (.iaddrA 26 1 2 (.t 25) (.v (.k (.c (.int .i64 0)))))⟩, ⟨none, (.load 27 1 false (.t 26))⟩, ⟨none, (.bin 28 .lss (.t 27) (.v (.k (.c (.int .i64 0)))))⟩, ⟨none, (.mov 29 (.t 28))⟩, ⟨(some (29, false)), (.mov 30 (.t 1))⟩, ⟨(some (29, false)), (.mov 31 (.t 5))⟩, ⟨(some (29, false)), (.iaddr 32 2 (.t 30) (.t 31))⟩, ⟨(some (29, false)), (.iaddrA 33 1 2 (.t 32) (.v (.k (.c (.int .i64 0)))))⟩, ⟨(some (29, false)), (.load 34 1 false (.t 33))⟩, ⟨(some (29, false)), (.mov 35 (.t 0))⟩, ⟨(some (29, false)), (.bin 36 .geq (.t 34) (.t 35))⟩, ⟨none, (.pick 37 (.t 29) (.v (.k (.c (.bool true)))) (.t 36))⟩, ⟨none, (.mov 38 (.t 37))⟩, ⟨(some (38, false)), (.mov 39 (.t 1))⟩, ⟨(some (38, false)), (.mov 40 (.t 5))⟩, ⟨(some (38, false)), (.iaddr 41 2 (.t 39) (.t 40))⟩, ⟨(some (38, false)), (.iaddrA 42 1 2 (.t 41) (.v (.k (.c (.int .i64 1)))))⟩, ⟨(some (38, false)), (.load 43 1 false (.t 42))⟩, ⟨(some (38, false)), (.bin 44 .lss (.t 43) (.v (.k (.c (.int .i64 0)))))⟩, ⟨none, (.pick 45 (.t 38) (.v (.k (.c (.bool true)))) (.t 44))⟩, ⟨none, (.mov 46 (.t 45))⟩, ⟨(some (46, false)), (.mov 47 (.t 1))⟩, ⟨(some (46, false)), (.mov 48 (.t 5))⟩, ⟨(some (46, false)), (.iaddr 49 2 (.t 47) (.t 48))⟩, ⟨(some (46, false)), (.iaddrA 50 1 2 (.t 49) (.v (.k (.c (.int .i64 1)))))⟩, ⟨(some (46, false)), (.load 51 1 false (.t 50))⟩, ⟨(some (46, false)), (.mov 52 (.t 0))⟩, ⟨(some (46, false)), (.bin 53 .geq (.t 51) (.t 52))⟩, ⟨none, (.pick 54 (.t 46) (.v (.k (.c (.bool true)))) (.t 53))⟩]
def f53b8 : AQ := (.seq (.region f53r7) f53b6)
def f53b9 : AQ := (.block 1 f53b8)
def f53b10 : AQ := (.seq f53b9 (.region f53r3))
def f53b11 : AQ := (.cond (.t 20) .skip (.exit 0))
def f53r12 : List AI := [⟨none, (.mov 17 (.t 5))⟩, ⟨none, (.mov 18 (.t 1))⟩, ⟨none, (.len 19 (.t 18))⟩, ⟨none, (.bin 20 .lss (.t 17) (.t 19))⟩]
def f53b13 : AQ := (.seq (.region f53r12) f53b11)
def f53b14 : AQ := (.seq f53b13 f53b10)
def f53l15 : AQ := .loop [0, 1, 5] [] f53b14
def f53b16 : AQ := (.block 0 f53l15)
def f53r17 : List AI := [⟨none, (.mov 5 (.v (.k (.c (.int .i64 0)))))⟩]
def f53b18 : AQ := (.seq (.region f53r17) f53b16)
def f53b19 : AQ := (.seq f53b18 f53b2)
def f53r20 : List AI := [⟨none, (.mov 4 (.v (.k (.c (.bool false)))))⟩]
def f53b21 : AQ := (.seq (.region f53r20) .ret)
def f53b22 : AQ := (.cond (.t 16) f53b21 .skip)
def f53r23 : List AI := [⟨none, (.mov 6 (.t 0))⟩, ⟨none, (.bin 7 .lss (.t 6) (.v (.k (.c (.int .i64 0)))))⟩, ⟨none, (.mov 8 (.t 7))⟩, ⟨(some (8, false)), (.mov 9 (.t 0))⟩, ⟨(some (8, false)), (.bin 10 .gtr (.t 9) (.v (.k (.c (.int .i64 300)))))⟩, ⟨none, (.pick 11 (.t 8) (.v (.k (.c (.bool true)))) (.t 10))⟩, ⟨none, (.mov 12 (.t 11))⟩, ⟨(some (12, false)), (.mov 13 (.t 1))⟩, ⟨(some (12, false)), (.len 14 (.t 13))⟩, ⟨(some (12, false)), (.bin 15 .gtr (.t 14) (.v (.k (.c (.int .i64 2000)))))⟩, ⟨none, (.pick 16 (.t 12) (.v (.k (.c (.bool true)))) (.t 15))⟩]
def f53b24 : AQ := (.seq (.region f53r23) f53b22)
def f53b25 : AQ := (.seq f53b24 f53b19)
def f53r26 : List AI := [⟨none, (.mov 4 (.v (.k (.c (.bool false)))))⟩]
def f53b27 : AQ := (.seq (.region f53r26) f53b25)
def f53 : AQ := f53b27
theorem hf53 : cFunc Try.prog 53 = some ⟨55, f53.erase, [(RX.t 4)]⟩ := by kernel_rfl
theorem okf53 : f53.ok = true := by kernel_rfl
def f54r1 : List AI := [⟨none, (.nilL 8 3 1)⟩]
def f54b2 : AQ := (.seq (.region f54r1) .ret)
def f54r3 : List AI := [⟨none, (.mov 34 (.t 10))⟩, ⟨none, (.bin 35 .add (.t 34) (.v (.k (.c (.int .i64 1)))))⟩, ⟨none, (.mov 10 (.t 35))⟩]
def f54r4 : List AI := [⟨none, (.mov 54 (.t 11))⟩, ⟨none, (.mov 8 (.t 54))⟩]
def f54b5 : AQ := (.seq (.region f54r4) .ret)
def f54b6 : AQ := (.cond (.t 53) f54b5 .skip)
def f54r7 : List AI := [⟨none, (.mov 51 (.t 11))⟩, ⟨none, (.len 52 (.t 51))⟩, ⟨none, (.bin 53 .gtr (.t 52) (.v (.k (.c (.int .i64 0)))))⟩]
def f54b8 : AQ := (.seq (.region f54r7) f54b6)
def f54r9 : List AI := [⟨none, (.mov 40 (.t 0))⟩, ⟨none, (.mov 41 (.t 1))⟩, ⟨none, (.bslice 42 3 1 [(.int .i64 0)] 0 [])⟩, ⟨none, (.mov 43 (.t 2))⟩, ⟨none, (.append 44 3 1 8 (.t 42) (.t 43))⟩, ⟨none, (.mov 45 (.t 10))⟩, ⟨none, (.bslice 46 3 1 [(.int .i64 0)] 1 [(0, (.t 45))])⟩, ⟨none, (.append 47 3 1 8 (.t 44) (.t 46))⟩, ⟨none, (.mov 48 (.t 3))⟩, ⟨none, (.bin 49 .sub (.t 48) (.v (.k (.c (.int .i64 1)))))⟩, ⟨none, (.call (some 50) 54 [(.t 40), (.t 41), (.t 47), (.t 49)])⟩, ⟨none, (.mov 11 (.t 50))⟩]
def f54b10 : AQ := (.seq (.region f54r9) f54b8)
def f54b11 : AQ := (.cond (.t 39) f54b10 .skip)
def f54r12 : List AI := [⟨none, (.mov 36 (.t 1))⟩, ⟨none, (.mov 37 (.t 9))⟩, ⟨none, (.mov 38 (.t 10))⟩, ⟨none, (.call (some 39) 23 [(.t 36), (.t 37), (.t 38)])⟩]
def f54b13 : AQ := (.seq (.region f54r12) f54b11)
def f54b14 : AQ := (.block 1 f54b13)
def f54b15 : AQ := (.seq f54b14 (.region f54r3))
def f54b16 : AQ := (.cond (.t 33) .skip (.exit 0))
def f54r17 : List AI := [⟨none, (.mov 31 (.t 10))⟩, ⟨none, (.mov 32 (.t 0))⟩, ⟨none, (.bin 33 .lss (.t 31) (.t 32))⟩]
def f54b18 : AQ := (.seq (.region f54r17) f54b16)
def f54b19 : AQ := (.seq f54b18 f54b15)
def f54l20 : AQ := .loop [0, 1, 2, 3, 9, 10] [] f54b19
def f54b21 : AQ := (.block 0 f54l20)
def f54r22 : List AI := [⟨none, (.mov 27 (.t 2))⟩, ⟨none, (.iaddr 28 1 (.t 27) (.v (.k (.c (.int .i64 0)))))⟩, ⟨none, (.load 29 1 false (.t 28))⟩, ⟨none, (.bin 30 .add (.t 29) (.v (.k (.c (.int .i64 1)))))⟩, ⟨none, (.mov 10 (.t 30))⟩]
def f54b23 : AQ := (.seq (.region f54r22) f54b21)
def f54b24 : AQ := (.seq f54b23 f54b2)
def f54r25 : List AI := [⟨none, (.nilL 8 3 1)⟩]
def f54b26 : AQ := (.seq (.region f54r25) .ret)
def f54r27 : List AI := [⟨none, (.mov 26 (.t 2))⟩, ⟨none, (.mov 8 (.t 26))⟩]
def f54b28 : AQ := (.seq (.region f54r27) .ret)
def f54b29 : AQ := (.cond (.t 25) f54b28 .skip)
def f54r30 : List AI := [⟨none, (.mov 20 (.t 1))⟩, ⟨none, (.mov 21 (.t 9))⟩, ⟨none, (.mov 22 (.t 2))⟩, ⟨none, (.iaddr 23 1 (.t 22) (.v (.k (.c (.int .i64 0)))))⟩, ⟨none, (.load 24 1 false (.t 23))⟩, ⟨none, (.call (some 25) 23 [(.t 20), (.t 21), (.t 24)])⟩]
def f54b31 : AQ := (.seq (.region f54r30) f54b29)
def f54b32 : AQ := (.seq f54b31 f54b26)
def f54b33 : AQ := (.cond (.t 19) f54b32 .skip)
def f54r34 : List AI := [⟨none, (.mov 18 (.t 3))⟩, ⟨none, (.bin 19 .eql (.t 18) (.v (.k (.c (.int .i64 0)))))⟩]
def f54b35 : AQ := (.seq (.region f54r34) f54b33)
def f54b36 : AQ := (.seq f54b35 f54b24)
def f54r37 : List AI := [⟨none, (.mov 12 (.t 2))⟩, ⟨none, (.mov 13 (.t 2))⟩, ⟨none, (.len 14 (.t 13))⟩, ⟨none, (.bin 15 .sub (.t 14) (.v (.k (.c (.int .i64 1)))))⟩, ⟨none, (.iaddr 16 1 (.t 12) (.t 15))⟩, ⟨none, (.load 17 1 false (.t 16))⟩, ⟨none, (.mov 9 (.t 17))⟩]
def f54b38 : AQ := (.seq (.region f54r37) f54b36)
def f54r39 : List AI := [⟨none, (.nilL 8 3 1)⟩]
def f54b40 : AQ := (.seq (.region f54r39) f54b38)
def f54 : AQ := f54b40
theorem hf54 : cFunc Try.prog 54 = some ⟨55, f54.erase, [(RX.t 8)]⟩ := by kernel_rfl
theorem okf54 : f54.ok = true := by kernel_rfl
def f3r1 : List AI := [⟨none, (.mov 25 (.t 7))⟩, ⟨none, (.mov 26 (.t 25))⟩, ⟨(some (26, true)), (.mov 27 (.t 0))⟩, ⟨(some (26, true)), (.call (some 28) 10 [(.t 27)])⟩, ⟨(some (26, true)), (.mov 29 (.t 0))⟩, ⟨(some (26, true)), (.call (some 30) 11 [(.t 29)])⟩, ⟨(some (26, true)), (.bin 31 .eql (.t 28) (.t 30))⟩, ⟨none, (.pick 32 (.t 26) (.t 31) (.v (.k (.c (.bool false)))))⟩, ⟨none, (.mov 33 (.t 32))⟩, ⟨(some (33, true)), (.mov 34 (.t 0))⟩, ⟨(some (33, true)), (.mov 35 (.t 2))⟩, ⟨(some (33, true)), (.call (some 36) 12 [(.t 34), (.t 35)])⟩, ⟨(some (33, true)), (.mov 37 (.t 0))⟩, ⟨(some (33, true)), (.mov 38 (.t 2))⟩, ⟨(some (33, true)), (.call (some 39) 13 [(.t 37), (.t 38)])⟩, ⟨(some (33, true)), (.bin 40 .eql (.t 36) (.t 39))⟩, ⟨none, (.pick 41 (.t 33) (.t 40) (.v (.k (.c (.bool false)))))⟩, ⟨none, (.mov 42 (.t 41))⟩, ⟨(some (42, true)), (.mov 43 (.t 0))⟩, ⟨(some (42, true)), (.call (some 44) 15 [(.t 43)])⟩, ⟨(some (42, true)), (.mov 45 (.t 0))⟩, ⟨(some (42, true)), (.call (some 46) 16 [(.t 45)])⟩, ⟨(some (42, true)), (.call (some 47) 14 [(.t 44), (.t 46)])⟩, ⟨none, (.pick 48 (.t 42) (.t 47) (.v (.k (.c (.bool false)))))⟩, ⟨none, (.mov 49 (.t 48))⟩, ⟨(some (49, true)), (.mov 50 (.t 0))⟩, ⟨(some (49, true)), (.load 51 3 true (.t 4))⟩, ⟨(some (49, true)), (.call (some 52) 17 [(.t 50), (.t 51)])⟩, ⟨(some (49, true)), (.mov 53 (.t 0))⟩, ⟨(some (49, true)), (.load 54 3 true (.t 4))⟩, ⟨(some (49, true)), (.call (some 55) 18 [(.t 53), (.t 54)])⟩, ⟨(some (49, true)), (.binB 56 false (.t 52) (.t 55))⟩, ⟨none, (.pick 57 (.t 49) (.t 56) (.v (.k (.c (.bool false)))))⟩, ⟨none, (.mov 58 (.t 57))⟩, ⟨(some (58, true)), (.mov 59 (.t 0))⟩, ⟨(some (58, true)), (.call (some 60) 20 [(.t 59)])⟩, ⟨(some (58, true)), (.mov 61 (.t 0))⟩, ⟨(some (58, true)), (.call (some 62) 21 [(.t 61)])⟩, ⟨(some (58, true)), (.call (some 63) 19 [(.t 60), (.t 62)])⟩, ⟨none, (.pick 64 (.t 58) (.t 63) (.v (.k (.c (.bool false)))))⟩, ⟨none, (.mov 6 (.t 64))⟩]
def f3b2 : AQ := (.seq (.draw f3r1 [[], [0], [1], [2, 1, 1], [1], [4, 3, 1], [3, 5, 1], [1, 6], [7, 5], [8], [8], [9, 10, 8, 8], [8], [8], [12, 13, 11, 8], [11, 14, 8], [8, 15], [16, 14], [17], [18, 17, 17], [17], [20, 19, 17], [19, 21, 21, 17], [17, 22], [23, 22], [24], [24], [25, 26, 24, 24], [24], [24], [28, 29, 27, 24], [27, 30, 24], [24, 31], [32, 30], [33], [34, 33, 33], [33], [36, 35, 33], [35, 37, 37, 33], [33, 38], [39, 38, 0, 1, 2, 3, 4, 5, 6, 7, 8, 9, 10, 11, 12, 13, 14, 15, 16, 17, 18, 19, 20, 21, 22, 23, 24, 25, 26, 27, 28, 29, 30, 31, 32, 33, 34, 35, 36, 37, 38, 39]]) .ret)
def f3r3 : List AI := [⟨none, (.mov 24 (.t 7))⟩, ⟨none, (.mov 6 (.t 24))⟩]
def f3b4 : AQ := (.seq (.region f3r3) .ret)
def f3b5 : AQ := (.cond (.t 23) f3b4 .skip)
def f3r6 : List AI := [⟨none, (.mov 9 (.t 0))⟩, ⟨none, (.call (some 10) 9 [(.t 9)])⟩, ⟨none, (.un 11 .not (.t 10))⟩, ⟨none, (.mov 12 (.t 11))⟩, ⟨(some (12, false)), (.faddr 13 0 (.t 4))⟩, ⟨(some (12, false)), (.load 14 1 false (.t 13))⟩, ⟨(some (12, false)), (.len 15 (.t 14))⟩, ⟨(some (12, false)), (.bin 16 .gtr (.t 15) (.v (.k (.c (.int .i64 30)))))⟩, ⟨none, (.pick 17 (.t 12) (.v (.k (.c (.bool true)))) (.t 16))⟩, ⟨none, (.mov 18 (.t 17))⟩, ⟨(some (18, false)), (.faddr 19 1 (.t 4))⟩, ⟨(some (18, false)), (.load 20 1 false (.t 19))⟩, ⟨(some (18, false)), (.len 21 (.t 20))⟩, ⟨(some (18, false)), (.bin 22 .gtr (.t 21) (.v (.k (.c (.int .i64 30)))))⟩, ⟨none, (.pick 23 (.t 18) (.v (.k (.c (.bool true)))) (.t 22))⟩]
def f3b7 : AQ := (.seq (.region f3r6) f3b5)
def f3b8 : AQ := (.seq f3b7 f3b2)
def f3r9 : List AI := [⟨none, (.call (some 8) 8 [])⟩, ⟨none, (.mov 7 (.t 8))⟩]
def f3b10 : AQ := (.seq (.region f3r9) f3b8)
def f3r11 : List AI := [⟨none, (.box 4 25 (.t 1))⟩, ⟨none, (.mov 6 (.v (.k (.c (.bool false)))))⟩]
def f3b12 : AQ := (.seq (.region f3r11) f3b10)
def f3 : AQ := f3b12
theorem hf3 : cFunc Try.prog 3 = some ⟨65, f3.erase, [(RX.t 6)]⟩ := by kernel_rfl
theorem okf3 : f3.ok = true := by kernel_rfl
def f8r1 : List AI := [⟨none, (.mov 58 (.t 3))⟩, ⟨none, (.mov 59 (.t 58))⟩, ⟨(some (59, true)), (.mov 60 (.t 4))⟩, ⟨none, (.pick 61 (.t 59) (.t 60) (.v (.k (.c (.bool false)))))⟩, ⟨none, (.mov 62 (.t 61))⟩, ⟨(some (62, true)), (.mov 63 (.t 1))⟩, ⟨(some (62, true)), (.call (some 64) 10 [(.t 63)])⟩, ⟨(some (62, true)), (.bin 65 .eql (.t 64) (.v (.k (.c (.int .i64 2)))))⟩, ⟨none, (.pick 66 (.t 62) (.t 65) (.v (.k (.c (.bool false)))))⟩, ⟨none, (.mov 67 (.t 66))⟩, ⟨(some (67, true)), (.call (some 68) 10 [(.v (.k (.c (.list 0 (some true) []))))])⟩, ⟨(some (67, true)), (.bin 69 .eql (.t 68) (.v (.k (.c (.int .i64 0)))))⟩, ⟨none, (.pick 70 (.t 67) (.t 69) (.v (.k (.c (.bool false)))))⟩, ⟨none, (.mov 71 (.t 70))⟩, ⟨(some (71, true)), (.mov 72 (.t 1))⟩, ⟨(some (71, true)), (.call (some 73) 15 [(.t 72)])⟩, ⟨(some (71, true)), (.len 74 (.t 73))⟩, ⟨(some (71, true)), (.bin 75 .eql (.t 74) (.v (.k (.c (.int .i64 0)))))⟩, ⟨none, (.pick 76 (.t 71) (.t 75) (.v (.k (.c (.bool false)))))⟩, ⟨none, (.mov 0 (.t 76))⟩]
def f8b2 : AQ := (.seq (.region f8r1) .ret)
def f8r3 : List AI := [⟨none, (.mov 55 (.t 1))⟩, ⟨none, (.iaddr 56 6 (.t 55) (.v (.k (.c (.int .i64 2)))))⟩, ⟨none, (.faddr 57 5 (.t 56))⟩, ⟨none, (.store 1 (.t 57) (.v (.k (.c (.int .i64 2)))))⟩]
def f8b4 : AQ := (.seq (.region f8r3) f8b2)
def f8r5 : List AI := [⟨none, (.mov 33 (.t 1))⟩, ⟨none, (.call (some 34) 15 [(.t 33)])⟩, ⟨none, (.bslice 35 3 1 [(.int .i64 0)] 2 [(0, (.v (.k (.c (.int .i64 1))))), (1, (.v (.k (.c (.int .i64 2)))))])⟩, ⟨none, (.bslice 36 3 1 [(.int .i64 0)] 2 [(0, (.v (.k (.c (.int .i64 2))))), (1, (.v (.k (.c (.int .i64 3)))))])⟩]
def f8r6 : List AI := [⟨none, (.build 37 [(.list 0 (some true) []), (.list 0 (some true) []), (.int .i64 0)] [(0, (1, (.t 35))), (1, (1, (.t 36))), (2, (1, (.v (.k (.c (.int .i64 0))))))])⟩, ⟨none, (.bslice 38 25 3 [(.list 0 (some true) []), (.list 0 (some true) []), (.int .i64 0)] 1 [(0, (.t 37))])⟩, ⟨none, (.call (some 39) 14 [(.t 34), (.t 38)])⟩, ⟨none, (.mov 40 (.t 39))⟩, ⟨(some (40, true)), (.mov 41 (.t 1))⟩, ⟨(some (40, true)), (.bslice 42 3 1 [(.int .i64 0)] 2 [(0, (.v (.k (.c (.int .i64 1))))), (1, (.v (.k (.c (.int .i64 2)))))])⟩, ⟨(some (40, true)), (.bslice 43 3 1 [(.int .i64 0)] 2 [(0, (.v (.k (.c (.int .i64 2))))), (1, (.v (.k (.c (.int .i64 3)))))])⟩]
def f8r7 : List AI := [⟨(some (40, true)), (.build 44 [(.list 0 (some true) []), (.list 0 (some true) []), (.int .i64 0)] [(0, (1, (.t 42))), (1, (1, (.t 43)))])⟩, ⟨(some (40, true)), (.call (some 45) 17 [(.t 41), (.t 44)])⟩, ⟨none, (.pick 46 (.t 40) (.t 45) (.v (.k (.c (.bool false)))))⟩, ⟨none, (.mov 47 (.t 46))⟩, ⟨(some (47, true)), (.mov 48 (.t 1))⟩, ⟨(some (47, true)), (.bslice 49 3 1 [(.int .i64 0)] 2 [(0, (.v (.k (.c (.int .i64 1))))), (1, (.v (.k (.c (.int .i64 2)))))])⟩, ⟨(some (47, true)), (.bslice 50 3 1 [(.int .i64 0)] 2 [(0, (.v (.k (.c (.int .i64 2))))), (1, (.v (.k (.c (.int .i64 3)))))])⟩]
def f8r8 : List AI := [⟨(some (47, true)), (.build 51 [(.list 0 (some true) []), (.list 0 (some true) []), (.int .i64 0)] [(0, (1, (.t 49))), (1, (1, (.t 50))), (2, (1, (.v (.k (.c (.int .i64 1))))))])⟩, ⟨(some (47, true)), (.call (some 52) 17 [(.t 48), (.t 51)])⟩, ⟨(some (47, true)), (.un 53 .not (.t 52))⟩, ⟨none, (.pick 54 (.t 47) (.t 53) (.v (.k (.c (.bool false)))))⟩, ⟨none, (.mov 4 (.t 54))⟩]
def f8b9 : AQ := (.seq (.regs [(f8r5, [35, 36]), (f8r6, [42, 43]), (f8r7, [49, 50]), (f8r8, [])]) f8b4)
def f8r10 : List AI := [⟨none, (.mov 30 (.t 1))⟩, ⟨none, (.iaddr 31 6 (.t 30) (.v (.k (.c (.int .i64 2)))))⟩, ⟨none, (.faddr 32 1 (.t 31))⟩, ⟨none, (.store 1 (.t 32) (.v (.k (.c (.int .i64 2)))))⟩]
def f8b11 : AQ := (.seq (.region f8r10) f8b9)
def f8r12 : List AI := [⟨none, (.mov 8 (.t 2))⟩, ⟨none, (.bslice 9 3 1 [(.int .i64 0)] 3 [(0, (.v (.k (.c (.int .i64 0))))), (1, (.v (.k (.c (.int .i64 1))))), (2, (.v (.k (.c (.int .i64 2)))))])⟩, ⟨none, (.bslice 10 3 1 [(.int .i64 0)] 3 [(0, (.v (.k (.c (.int .i64 1))))), (1, (.v (.k (.c (.int .i64 2))))), (2, (.v (.k (.c (.int .i64 3)))))])⟩]
def f8r13 : List AI := [⟨none, (.build 11 [(.list 0 (some true) []), (.list 0 (some true) []), (.int .i64 0)] [(0, (1, (.t 9))), (1, (1, (.t 10))), (2, (1, (.v (.k (.c (.int .i64 10))))))])⟩, ⟨none, (.bslice 12 25 3 [(.list 0 (some true) []), (.list 0 (some true) []), (.int .i64 0)] 1 [(0, (.t 11))])⟩, ⟨none, (.call (some 13) 14 [(.t 8), (.t 12)])⟩, ⟨none, (.mov 14 (.t 13))⟩, ⟨(some (14, true)), (.mov 15 (.t 1))⟩, ⟨(some (14, true)), (.call (some 16) 20 [(.t 15)])⟩, ⟨(some (14, true)), (.bslice 17 3 1 [(.int .i64 0)] 3 [(0, (.v (.k (.c (.int .i64 1))))), (1, (.v (.k (.c (.int .i64 2))))), (2, (.v (.k (.c (.int .i64 3)))))])⟩, ⟨(some (14, true)), (.call (some 18) 19 [(.t 16), (.t 17)])⟩, ⟨none, (.pick 19 (.t 14) (.t 18) (.v (.k (.c (.bool false)))))⟩, ⟨none, (.mov 20 (.t 19))⟩, ⟨(some (20, true)), (.mov 21 (.t 1))⟩, ⟨(some (20, true)), (.call (some 22) 12 [(.t 21), (.v (.k (.c (.int .i64 0))))])⟩, ⟨(some (20, true)), (.bin 23 .eql (.t 22) (.v (.k (.c (.int .i64 10)))))⟩, ⟨none, (.pick 24 (.t 20) (.t 23) (.v (.k (.c (.bool false)))))⟩, ⟨none, (.mov 25 (.t 24))⟩, ⟨(some (25, true)), (.mov 26 (.t 1))⟩, ⟨(some (25, true)), (.call (some 27) 12 [(.t 26), (.v (.k (.c (.int .i64 2))))])⟩, ⟨(some (25, true)), (.bin 28 .eql (.t 27) (.v (.k (.c (.int .i64 100)))))⟩, ⟨none, (.pick 29 (.t 25) (.t 28) (.v (.k (.c (.bool false)))))⟩, ⟨none, (.mov 3 (.t 29))⟩]
def f8b14 : AQ := (.seq (.regf f8r12 [9, 10] f8r13) f8b11)
def f8r15 : List AI := [⟨none, (.mov 6 (.t 1))⟩, ⟨none, (.call (some 7) 15 [(.t 6)])⟩, ⟨none, (.mov 2 (.t 7))⟩]
def f8b16 : AQ := (.seq (.region f8r15) f8b14)
def f8r17 : List AI := [⟨none, (.call (some 5) 25 [])⟩, ⟨none, (.mov 1 (.t 5))⟩]
def f8b18 : AQ := (.seq (.region f8r17) f8b16)
def f8r19 : List AI := [⟨none, (.mov 0 (.v (.k (.c (.bool false)))))⟩]
def f8b20 : AQ := (.seq (.region f8r19) f8b18)
def f8 : AQ := f8b20
theorem hf8 : cFunc Try.prog 8 = some ⟨77, f8.erase, [(RX.t 0)]⟩ := by kernel_rfl
theorem okf8 : f8.ok = true := by kernel_rfl
end Go.Abs


namespace Go.Abs
theorem wrap_in {n : Int} (h1 : -9223372036854775808 ≤ n) (h2 : n ≤ 9223372036854775807) : IntKind.i64.wrap n = n := IntWalk.i64_in n ⟨h1, h2⟩
def lstC (sz : Nat) (rows : List (List C)) : C := .list (if rows.isEmpty then 0 else sz) none rows
abbrev lst (sz : Nat) (rows : List (List C)) : V := .k (.c (lstC sz rows))
def ints (l : List Int) : List (List C) := l.map fun n => [.int .i64 n]
theorem normRows_eq {α : Type} {f : α → List C} (hf : ∀ x, C.normRow (f x) = f x) (l : List α) : C.normRows (l.map f) = l.map f := by
  induction l with
  | nil => rfl
  | cons a l ih => simp [C.normRows, hf, ih]
theorem lstC_norm {α : Type} {f : α → List C} (hf : ∀ x, C.normRow (f x) = f x) (sz : Nat) (l : List α) : (lstC sz (l.map f)).norm = lstC sz (l.map f) := by
  unfold lstC
  simp only [C.norm, normRows_eq hf]
  cases l <;> simp
inductive Term where
  | mk (op n : Int) (args : List Term)
  deriving Inhabited
def Term.op : Term → Int | .mk o _ _ => o
def Term.n : Term → Int | .mk _ n _ => n
def Term.args : Term → List Term | .mk _ _ a => a
mutual
def encT : Term → List C
  | .mk o n a => [.int .i64 o, .int .i64 n, lstC 3 (encTs a)]
def encTs : List Term → List (List C)
  | [] => []
  | t :: l => encT t :: encTs l
end
theorem encTs_map : ∀ (l : List Term), encTs l = l.map encT
  | [] => rfl
  | t :: l => by simp [encTs, encTs_map l]
theorem encT_eq (t : Term) : encT t = [.int .i64 t.op, .int .i64 t.n, lstC 3 (t.args.map encT)] := by
  cases t with
  | mk o n a => simp [encT, Term.op, Term.n, Term.args, encTs_map]
mutual
theorem encT_norm : ∀ (t : Term), C.normRow (encT t) = encT t
  | .mk o n a => by
    simp only [encT, C.normRow, C.norm, lstC, encTs_norm a]
    cases a <;> simp [encTs]
theorem encTs_norm : ∀ (l : List Term), C.normRows (encTs l) = encTs l
  | [] => rfl
  | t :: l => by simp only [encTs, C.normRows, encT_norm t, encTs_norm l]
end
structure Choice where
  ask : Int
  by_ : Int
  whole : Bool
  deriving Inhabited
structure Rule where
  ask : Int
  term : Term
  deriving Inhabited
structure Order where
  name : List UInt8
  accepts : Bool
  choices : List Choice
  rules : List Rule
  deriving Inhabited
def encChoice (c : Choice) : List C := [.int .i64 c.ask, .int .i64 c.by_, .bool c.whole]
def encRule (r : Rule) : List C := .int .i64 r.ask :: encT r.term
def encOrder (o : Order) : List C := [.str o.name, .bool o.accepts, lstC 3 (o.choices.map encChoice), lstC 4 (o.rules.map encRule)]
theorem encChoice_norm (c : Choice) : C.normRow (encChoice c) = encChoice c := rfl
theorem encRule_norm (r : Rule) : C.normRow (encRule r) = encRule r := by simp [encRule, C.normRow, C.norm, encT_norm]
theorem encOrder_norm (o : Order) : C.normRow (encOrder o) = encOrder o := by
  simp only [encOrder, C.normRow, C.norm, lstC_norm encChoice_norm, lstC_norm encRule_norm]
structure Cell where
  known : Bool
  n : Int
  deriving Inhabited
def encCell (c : Cell) : List C := [.bool c.known, .int .i64 c.n]
theorem encCell_norm (c : Cell) : C.normRow (encCell c) = encCell c := rfl
def encI (n : Int) : List C := [.int .i64 n]
@[simp] theorem normRow_int (k : IntKind) (n : Int) : C.normRow [.int k n] = [.int k n] := rfl
@[simp] theorem normRow_encI (n : Int) : C.normRow (encI n) = encI n := rfl
attribute [simp] encT_norm encChoice_norm encRule_norm encOrder_norm encCell_norm C.normRow
@[simp] theorem norm_int (k : IntKind) (n : Int) : (C.int k n).norm = .int k n := rfl
@[simp] theorem norm_bool (b : Bool) : (C.bool b).norm = .bool b := rfl
@[simp] theorem norm_str (s : List UInt8) : (C.str s).norm = .str s := rfl
@[simp] theorem norm_ro (row : List C) (off : Nat) : (C.ro row off).norm = .ro (C.normRow row) off := rfl
@[simp] theorem norm_fn (f : FuncId) (caps : List C) : (C.fn f caps).norm = .fn f (C.normRow caps) := rfl
@[simp] theorem normRows_T (l : List Term) : C.normRows (l.map encT) = l.map encT := normRows_eq encT_norm l
@[simp] theorem normRows_Ch (l : List Choice) : C.normRows (l.map encChoice) = l.map encChoice := normRows_eq encChoice_norm l
@[simp] theorem normRows_R (l : List Rule) : C.normRows (l.map encRule) = l.map encRule := normRows_eq encRule_norm l
@[simp] theorem normRows_O (l : List Order) : C.normRows (l.map encOrder) = l.map encOrder := normRows_eq encOrder_norm l
@[simp] theorem normRows_Ce (l : List Cell) : C.normRows (l.map encCell) = l.map encCell := normRows_eq encCell_norm l
@[simp] theorem normRows_ints (l : List Int) : C.normRows (ints l) = ints l := normRows_eq (fun _ => rfl) l
@[simp] theorem normRows_nil : C.normRows [] = [] := rfl
@[simp] theorem normRows_cons (r : List C) (l : List (List C)) : C.normRows (r :: l) = C.normRow r :: C.normRows l := rfl
@[simp] theorem ints_len (l : List Int) : (ints l).length = l.length := by simp [ints]
theorem ints_at {l : List Int} {i : Nat} (h : i < l.length) : (ints l).getD i [] = [.int .i64 l[i]] := by simp [ints, h]
@[simp] theorem ints_isEmpty (l : List Int) : (ints l).isEmpty = l.isEmpty := by cases l <;> rfl
theorem ints_snoc (l : List Int) (n : Int) : ints l ++ [[.int .i64 n]] = ints (l ++ [n]) := by simp [ints]
theorem ints_append (l m : List Int) : ints l ++ ints m = ints (l ++ m) := by simp [ints]
theorem r_vLen_lst (o : Nat → Option O) (sz : Nat) (rows : List (List C)) : vLen o (.k (.c (lstC sz rows))) = some (True, .int .i64 rows.length) := rfl
theorem r_vIaddr_lst (o : Nat → Option O) (sz : Nat) (rows : List (List C)) (k : IntKind) (n : Int) : vIaddr o sz (.k (.c (lstC sz rows))) (.k (.c (.int k n))) = some (0 ≤ n ∧ n < rows.length, .k (.pel sz rows n.toNat 0)) := by
  simp only [lstC, vIaddr, Option.some.injEq, Prod.mk.injEq]
  cases rows with
  | nil => simp; omega
  | cons a l =>
    refine ⟨?_, ?_⟩
    · simp
    · simp
theorem r_srcV_lst (os : OS) (sz : Nat) (rows : List (List C)) : srcV os sz (.k (.c (lstC sz rows))) = some (True, rows) := by
  simp only [lstC, srcV]
  cases rows <;> simp
@[simp] theorem norm_lst (sz : Nat) (rows : List (List C)) : (lstC sz rows).norm = lstC sz (C.normRows rows) := by
  unfold lstC
  simp only [C.norm]
  cases rows <;> simp [C.normRows]
@[simp] theorem norm_list (sz : Nat) (nl : Option Bool) (rows : List (List C)) : (C.list sz nl rows).norm = lstC sz (C.normRows rows) := by
  unfold lstC
  simp only [C.norm]
  cases rows <;> simp [C.normRows]
theorem r_all_noRef (d : Nat) (r : List C) : (r.map Abs.K.c).all (Abs.K.noRef d) = true := by induction r <;> simp_all [Abs.K.noRef]
theorem len_lst {sz : Nat} {rows : List (List C)} {l : List V} (hm : lst sz rows ∈ l) (h : ∀ v, v ∈ l → ∀ c, c ∈ v.topC → ∀ sz nl rows, c = .list sz nl rows → rows.length ≤ 9223372036854775807) : rows.length ≤ 9223372036854775807 :=
  h _ hm (lstC sz rows) (by simp [V.topC]) _ _ _ rfl
section
variable {P : Program} {f : FuncId} {vs : List V} {K : KK} {d : Nat} {ts : TS} {os : OS}
theorem call_s {args : List V} {r : V} {X : Prop} (hs : Spec P f args (fun r' => r' = r)) (hk : K (insT d r ts) os)
    (hp : vs.all (fun v => (lendL os v).isPure) = true := by simp [lendL, lendO, lookO, V.isPure])
    (ha : vs.map (fun v => (lendL os v).norm) = args := by simp [lendL, lendO, lookO, V.norm, encT_eq, encRule, encOrder, encChoice, encCell, norm_list, lst]) (hr : r.scalar = true := by rfl) : callK P f vs [] K (some d) ts os ∨ X := by
  refine .inl ⟨hp, r, .inl ?_, ?_⟩
  · simpa [ha] using hs
  · rw [if_pos hr]; exact hk
theorem call_c {cs : List C} {args : List V} {r : V} {X : Prop} (hs : Spec P f args (fun r' => r' = r)) (hk : K (insT d r ts) os)
    (hp : vs.all (fun v => (lendL os v).isPure) = true := by simp [lendL, lendO, lookO, V.isPure])
    (ha : (vs.map (fun v => (lendL os v).norm) ++ cs.map fun c => .k (.c c.norm)) = args := by simp [lendL, lendO, lookO, V.norm, encT_eq, encRule, encOrder, encChoice, encCell, norm_list, lst]) (hr : r.scalar = true := by rfl) : callK P f vs cs K (some d) ts os ∨ X := by
  refine .inl ⟨hp, r, .inl (by rw [ha]; exact hs), ?_⟩
  rw [if_pos hr]; exact hk
theorem call_r {args : List V} {r : V} {X : Prop} (hs : Spec P f args (fun r' => r' = r)) (hk : retK r K ts os (some d))
    (hp : vs.all (fun v => (lendL os v).isPure) = true := by simp [lendL, lendO, lookO, V.isPure])
    (ha : vs.map (fun v => (lendL os v).norm) = args := by simp [lendL, lendO, lookO, V.norm, encT_eq, encRule, encOrder, encChoice, encCell, norm_list, lst])
    (ht : vs.all (fun v => v.toks.isEmpty) = true := by simp [V.toks, K.toks]) (hr : r.scalar = false := by rfl) : callK P f vs [] K (some d) ts os ∨ X := by
  refine .inl ⟨hp, r, .inl (by simpa [ha] using hs), ?_⟩
  rw [if_neg (by simp [hr])]
  exact ⟨ht, hk⟩
theorem call_l {args : List V} {e sz : Nat} {nl : Option Bool} {rows : List (List C)} {X : Prop} (hs : Spec P f args (fun r' => r' = .k (.newl e sz nl rows))) (hk : K (insT d (.k (.own d)) ts) (insO d (.arr e sz nl rows) os))
    (hp : vs.all (fun v => (lendL os v).isPure) = true := by simp [lendL, lendO, lookO, V.isPure])
    (ha : vs.map (fun v => (lendL os v).norm) = args := by simp [lendL, lendO, lookO, V.norm, encT_eq, encRule, encOrder, encChoice, encCell, norm_list, lst])
    (ht : vs.all (fun v => v.toks.isEmpty) = true := by simp [V.toks, K.toks]) (hf : freeB d ts os := by first | rfl | simp [freeB, freeT, freeO, V.noRef, V.noRefL, O.noRef, Abs.K.noRef, r_all_noRef]) : callK P f vs [] K (some d) ts os ∨ X := by
  refine .inl ⟨hp, _, .inl (by simpa [ha] using hs), ?_⟩
  rw [if_neg (by simp [V.scalar])]
  refine ⟨ht, ?_⟩
  show regK _ _ _ _ _ _
  refine ⟨⟨⟨hf, .inl rfl⟩, trivial⟩, hk⟩
theorem callQ_s {args : List V} {r : V} (hs : Spec P f args (fun r' => r' = r)) (hk : K (insT d r.fz ts) os)
    (hp : vs.all (fun v => (lendL os v).isPure) = true := by simp [lendL, lendO, lookO, V.isPure])
    (ha : vs.map (fun v => (lendL os v).norm) = args := by simp [lendL, lendO, lookO, V.norm, encT_eq, encRule, encOrder, encChoice, encCell, norm_list, lst]) (hr : r.scalar = true := by rfl) : callQK P f vs [] K d ts os :=
  ⟨hp, r, by simpa [ha] using hs, .inl hr, hk⟩
theorem callQ_l {args : List V} {r : V} (hs : Spec P f args (fun r' => r' = r)) (hk : K (insT d r.fz ts) os)
    (hp : vs.all (fun v => (lendL os v).isPure) = true := by simp [lendL, lendO, lookO, V.isPure])
    (ha : vs.map (fun v => (lendL os v).norm) = args := by simp [lendL, lendO, lookO, V.norm, encT_eq, encRule, encOrder, encChoice, encCell, norm_list, lst]) (hr : vs.all (fun v => v.toks.isEmpty) = true := by simp [V.toks, K.toks]) : callQK P f vs [] K d ts os :=
  ⟨hp, r, by simpa [ha] using hs, .inr hr, hk⟩
end
end Go.Abs


set_option maxRecDepth 100000
namespace Go.Abs
theorem Qs : ((((((((type_of% @q_insT_eq_1 ∧ type_of% @q_look_eq_1) ∧ (type_of% @lookT_here ∧ type_of% @q_wpLs_eq_2)) ∧ ((type_of% @q_wpL_eq_1 ∧ type_of% @true_and) ∧ (type_of% @q_exL_eq_1 ∧ (type_of% @lookT_next ∧ type_of% @q_wpLs_eq_1)))) ∧ (((type_of% @q_putK_eq_1 ∧ type_of% @q_AE_thenL_eq_1) ∧ (type_of% @q_awl_eq_2 ∧ type_of% @q_look_eq_2)) ∧ ((type_of% @q_awl_eq_5 ∧ type_of% @q_vBin_eq_1) ∧ (type_of% @q_resV_eq_1 ∧ (type_of% @q_binV_eq_1 ∧ type_of% @q_binInt_eq_3))))) ∧ ((((type_of% @q_awl_eq_6 ∧ type_of% @q_learn_eq_1) ∧ (type_of% @q_condK_eq_1 ∧ type_of% @q_exL_eq_11)) ∧ ((type_of% @and_self ∧ type_of% @q_condB_eq_1) ∧ (type_of% @Nat.zero_add ∧ (type_of% @q_condB_eq_2 ∧ type_of% @q_mapO_eq_1)))) ∧ (((type_of% @q_mapT_eq_1 ∧ type_of% @q_mapT_eq_2) ∧ (type_of% @q_List_map_nil ∧ (type_of% @q_cutInt_eq_8 ∧ type_of% @q_List_map_cons))) ∧ ((type_of% @q_V_owns_eq_1 ∧ type_of% @q_V_toNew_eq_1) ∧ (type_of% @q_awl_eq_10 ∧ (type_of% @q_endL_eq_1 ∧ type_of% @q_endV_eq_1)))))) ∧ (((((type_of% @q_resL_eq_1 ∧ type_of% @q_resL_eq_2) ∧ (type_of% @q_resX_eq_1 ∧ type_of% @q_one_eq_1)) ∧ ((type_of% @q_Bool_not_true ∧ type_of% @q_awl_eq_1) ∧ (type_of% @q_AOp_dst_eq_10 ∧ (type_of% @q_V_nrm_eq_1 ∧ type_of% @decide_true)))) ∧ (((type_of% @lookO_here ∧ type_of% @q_endK_eq_2) ∧ (type_of% @q_K_nrm_eq_1 ∧ (type_of% @q_C_norm_eq_4 ∧ type_of% @q_C_norm_eq_5))) ∧ ((type_of% @norm_lst ∧ type_of% @q_lookO_eq_1) ∧ (type_of% @q_AOp_dst_eq_1 ∧ (type_of% @q_vPick_eq_1 ∧ type_of% @decide_false))))) ∧ ((((type_of% @q_exL_eq_3 ∧ type_of% @q_exL_eq_30) ∧ (type_of% @q_List_length_nil ∧ type_of% @q_K_owns_eq_2)) ∧ ((type_of% @q_K_toNew_eq_1 ∧ type_of% @q_awl_eq_7) ∧ (type_of% @q_Bool_not_false ∧ (type_of% @r_vLen_lst ∧ type_of% @q_exL_eq_8)))) ∧ (((type_of% @Bool.false_eq_true ∧ type_of% @Nat.le_refl) ∧ (type_of% @q_exK_eq_1 ∧ (type_of% @q_List_length_cons ∧ type_of% @q_AOp_dst_eq_8))) ∧ ((type_of% @q_guardP_eq_1 ∧ type_of% @q_vLoad_eq_2) ∧ (type_of% @q_guardP_eq_2 ∧ (type_of% @q_insO_eq_1 ∧ type_of% @r_vIaddr_lst))))))) ∧ ((((((type_of% @q_mapO_eq_2 ∧ type_of% @Int.toNat_natCast) ∧ (type_of% @q_List_drop_zero ∧ type_of% @q_List_take_zero)) ∧ ((type_of% @q_partV_eq_2 ∧ type_of% @q_List_getD_cons_zero) ∧ (type_of% @ints_len ∧ (type_of% @q_List_take_succ_cons ∧ type_of% @q_AE_inBlockL_eq_1)))) ∧ (((type_of% @q_cutInt_eq_1 ∧ type_of% @q_AE_thenL_eq_3) ∧ (type_of% @q_Option_map_some ∧ type_of% @q_pureRow_eq_1)) ∧ ((type_of% @q_pureRow_eq_2 ∧ type_of% @q_wpLQs_eq_2) ∧ (type_of% @q_wpLQ_eq_1 ∧ (type_of% @q_putDL_eq_1 ∧ type_of% @q_freeB_eq_1))))) ∧ ((((type_of% @q_freeT_eq_1 ∧ type_of% @q_freeT_eq_2) ∧ (type_of% @q_freeO_eq_1 ∧ type_of% @q_V_noRef_eq_1)) ∧ ((type_of% @Bool.and_true ∧ type_of% @Bool.or_true) ∧ (type_of% @q_K_noRef_eq_1 ∧ (type_of% @q_List_drop_succ_cons ∧ type_of% @q_exL_eq_23)))) ∧ (((type_of% @q_loadO_eq_1 ∧ type_of% @q_isV_eq_1) ∧ (type_of% @q_vLoad_eq_1 ∧ (type_of% @Nat.add_zero ∧ type_of% @q_AOp_dst_eq_20))) ∧ ((type_of% @q_isVarO_eq_1 ∧ type_of% @q_cutInt_eq_6) ∧ (type_of% @q_exLQ_eq_1 ∧ (type_of% @q_AOp_dst_eq_22 ∧ type_of% @not_false_eq_true)))))) ∧ (((((type_of% @q_ofRow_eq_1 ∧ type_of% @q_cutInt_eq_10) ∧ (type_of% @q_exL_eq_28 ∧ type_of% @q_K_nrm_eq_3)) ∧ ((type_of% @q_wpLQs_eq_1 ∧ type_of% @q_awl_eq_9) ∧ (type_of% @q_AE_thenL_eq_2 ∧ (type_of% @q_AE_inBlockL_eq_2 ∧ type_of% @q_exL_eq_21)))) ∧ (((type_of% @q_vFaddr_eq_1 ∧ type_of% @q_K_nrm_eq_2) ∧ (type_of% @q_AOp_dst_eq_27 ∧ (type_of% @q_V_nrm_eq_5 ∧ type_of% @lookO_next))) ∧ ((type_of% @q_initT_eq_1 ∧ type_of% @q_awl_eq_3) ∧ (type_of% @q_exLQ_eq_9 ∧ (type_of% @q_freeO_eq_2 ∧ type_of% @q_initT_eq_2))))) ∧ ((((type_of% @q_AE_inBlockL_eq_3 ∧ type_of% @q_vUn_eq_1) ∧ (type_of% @q_unV_eq_2 ∧ type_of% @q_mapC_eq_1)) ∧ ((type_of% @q_K_noRef_eq_2 ∧ type_of% @q_O_noRef_eq_2) ∧ (type_of% @normRows_ints ∧ (type_of% @q_cutInt_eq_11 ∧ type_of% @q_C_normRow_eq_1)))) ∧ (((type_of% @q_C_normRow_eq_2 ∧ type_of% @q_exLQ_eq_12) ∧ (type_of% @Int.natCast_nonneg ∧ (type_of% @q_exL_eq_15 ∧ type_of% @q_exLQ_eq_24))) ∧ ((type_of% @q_vFaddr_eq_3 ∧ type_of% @Bool.false_or) ∧ (type_of% @q_List_foldl_nil ∧ (type_of% @q_V_nrm_eq_2 ∧ type_of% @q_cutInt_eq_7)))))))) ∧ (((((((type_of% @q_vPick_eq_2 ∧ type_of% @q_AOp_dst_eq_32) ∧ (type_of% @q_exLQ_eq_3 ∧ type_of% @q_delO_eq_1)) ∧ ((type_of% @q_delO_eq_2 ∧ type_of% @q_vLits_eq_1) ∧ (type_of% @q_List_replicate_zero ∧ (type_of% @q_List_nil_append ∧ type_of% @q_O_nrm_eq_1)))) ∧ (((type_of% @q_List_foldl_cons ∧ type_of% @q_splice_eq_1) ∧ (type_of% @q_exLQ_eq_22 ∧ type_of% @Bool.true_and)) ∧ ((type_of% @q_AOp_dst_eq_3 ∧ type_of% @or_false) ∧ (type_of% @q_vLits_eq_2 ∧ (type_of% @q_List_replicate_succ ∧ type_of% @q_List_set_cons_zero))))) ∧ ((((type_of% @q_vRow_eq_1 ∧ type_of% @q_exKQ_eq_1) ∧ (type_of% @q_List_getD_cons_succ ∧ type_of% @q_vPick_eq_3)) ∧ ((type_of% @q_V_noRef_eq_2 ∧ type_of% @q_AOp_dst_eq_14) ∧ (type_of% @q_List_cons_append ∧ (type_of% @q_stVarK_eq_1 ∧ type_of% @q_storeK_eq_1)))) ∧ (((type_of% @q_cutInt_eq_2 ∧ type_of% @q_K_noRef_eq_5) ∧ (type_of% @q_exL_eq_2 ∧ (type_of% @q_exL_eq_7 ∧ type_of% @q_bsK_eq_1))) ∧ ((type_of% @q_V_cells_eq_1 ∧ type_of% @Bool.and_eq_true) ∧ (type_of% @q_nlApp_eq_2 ∧ (type_of% @z_V_k ∧ type_of% @z_K_c)))))) ∧ (((((type_of% @z_frzT ∧ type_of% @z_frzO) ∧ (type_of% @Int.cast_ofNat_Int ∧ type_of% @q_isArrO_eq_1)) ∧ ((type_of% @z_K_own_arr ∧ type_of% @Nat.succ_ne_self) ∧ (type_of% @q_vIaddr_eq_2 ∧ (type_of% @q_idxO_eq_1 ∧ type_of% @q_K_owns_eq_1)))) ∧ (((type_of% @q_K_toNew_eq_2 ∧ type_of% @q_appK_eq_1) ∧ (type_of% @q_appendK_eq_1 ∧ (type_of% @q_V_scrub_eq_1 ∧ type_of% @q_K_scrub_eq_1))) ∧ ((type_of% @q_K_scrub_eq_5 ∧ type_of% @q_awl_eq_14) ∧ (type_of% @q_O_nrm_eq_2 ∧ (type_of% @q_exLQ_eq_29 ∧ type_of% @q_O_scrub_eq_2))))) ∧ ((((type_of% @q_exLQ_eq_10 ∧ type_of% @q_exLQ_eq_33) ∧ (type_of% @q_exL_eq_9 ∧ type_of% @q_partV_eq_1)) ∧ ((type_of% @q_ofRow_eq_2 ∧ type_of% @q_vIaddr_eq_1) ∧ (type_of% @q_loadO_eq_2 ∧ (type_of% @q_isA_eq_1 ∧ type_of% @q_vLoad_eq_3)))) ∧ (((type_of% @q_srcV_eq_1 ∧ type_of% @z_O_arr) ∧ (type_of% @q_K_noRef_eq_3 ∧ (type_of% @q_O_noRef_eq_1 ∧ type_of% @q_List_all_cons))) ∧ ((type_of% @q_List_all_nil ∧ type_of% @q_C_normRows_eq_1) ∧ (type_of% @q_exLQ_eq_8 ∧ (type_of% @q_exLQ_eq_36 ∧ type_of% @q_bsQ_eq_1))))))) ∧ ((((((type_of% @q_exL_eq_24 ∧ type_of% @Int.toNat_zero) ∧ (type_of% @Nat.mul_one ∧ type_of% @q_regN_eq_1)) ∧ ((type_of% @q_V_reg_eq_4 ∧ type_of% @q_freesL_eq_1) ∧ (type_of% @q_addsL_eq_1 ∧ (type_of% @q_regK_eq_1 ∧ type_of% @q_retK_eq_2)))) ∧ (((type_of% @q_cutInt_eq_9 ∧ type_of% @q_exL_eq_4) ∧ (type_of% @q_V_cells_eq_2 ∧ type_of% @q_AOp_dst_eq_23)) ∧ ((type_of% @q_exL_eq_33 ∧ type_of% @q_K_scrub_eq_2) ∧ (type_of% @q_O_scrub_eq_1 ∧ (type_of% @q_guardP_eq_3 ∧ type_of% @q_vRow_eq_2))))) ∧ ((((type_of% @q_srcO_eq_1 ∧ type_of% @q_srcV_eq_2) ∧ (type_of% @z_frzT0 ∧ type_of% @z_frzO0)) ∧ ((type_of% @q_vLen_eq_1 ∧ type_of% @q_V_fz_eq_1) ∧ (type_of% @q_K_fz_eq_2 ∧ (type_of% @q_vBuild_eq_1 ∧ type_of% @q_vBuild_eq_2)))) ∧ (((type_of% @q_rowV_eq_1 ∧ type_of% @q_exL_eq_6) ∧ (type_of% @q_C_norm_eq_2 ∧ (type_of% @q_stArrK_eq_1 ∧ type_of% @q_storeK_eq_2))) ∧ ((type_of% @q_K_noRef_eq_4 ∧ type_of% @q_vIaddrA_eq_3) ∧ (type_of% @q_C_norm_eq_1 ∧ (type_of% @q_appNK_eq_1 ∧ type_of% @q_appendK_eq_2)))))) ∧ (((((type_of% @q_pureRow_eq_3 ∧ type_of% @q_V_scrub_eq_3) ∧ (type_of% @q_exL_eq_5 ∧ type_of% @q_boxK_eq_1)) ∧ ((type_of% @q_vIaddrA_eq_1 ∧ type_of% @Bool.true_or) ∧ (type_of% @q_List_set_cons_succ ∧ (type_of% @q_exL_eq_14 ∧ type_of% @q_vLen_eq_2)))) ∧ (((type_of% @q_lenO_eq_1 ∧ type_of% @q_C_norm_eq_3) ∧ (type_of% @false_implies ∧ (type_of% @q_exL_eq_18 ∧ type_of% @q_mkslK_eq_1))) ∧ ((type_of% @q_AOp_dst_eq_13 ∧ type_of% @q_K_scrub_eq_3) ∧ (type_of% @q_V_noRef_eq_5 ∧ (type_of% @q_V_scrub_eq_4 ∧ type_of% @q_exLQ_eq_16))))) ∧ ((((type_of% @q_vFaddr_eq_4 ∧ type_of% @q_vLoad_eq_4) ∧ (type_of% @z_V_agg ∧ type_of% @q_vNil_eq_2)) ∧ ((type_of% @q_nilO_eq_1 ∧ type_of% @q_vInts_eq_1) ∧ (type_of% @q_vInts_eq_2 ∧ (type_of% @q_foldV_eq_1 ∧ type_of% @q_vMinmax_eq_1)))) ∧ (((type_of% @q_minmaxI_eq_1 ∧ type_of% @z_O_var) ∧ (type_of% @z_K_ptr_arr ∧ (type_of% @q_C_normRows_eq_2 ∧ type_of% @q_AOp_dst_eq_7))) ∧ ((type_of% @z_K_elem_arr ∧ type_of% @q_awl_eq_11) ∧ (type_of% @q_keepT_eq_1 ∧ (type_of% @q_keepT_eq_2 ∧ type_of% @q_keepO_eq_1))))))))) := ⟨⟨⟨⟨⟨⟨⟨⟨@q_insT_eq_1, @q_look_eq_1⟩, ⟨@lookT_here, @q_wpLs_eq_2⟩⟩, ⟨⟨@q_wpL_eq_1, @true_and⟩, ⟨@q_exL_eq_1, ⟨@lookT_next, @q_wpLs_eq_1⟩⟩⟩⟩, ⟨⟨⟨@q_putK_eq_1, @q_AE_thenL_eq_1⟩, ⟨@q_awl_eq_2, @q_look_eq_2⟩⟩, ⟨⟨@q_awl_eq_5, @q_vBin_eq_1⟩, ⟨@q_resV_eq_1, ⟨@q_binV_eq_1, @q_binInt_eq_3⟩⟩⟩⟩⟩, ⟨⟨⟨⟨@q_awl_eq_6, @q_learn_eq_1⟩, ⟨@q_condK_eq_1, @q_exL_eq_11⟩⟩, ⟨⟨@and_self, @q_condB_eq_1⟩, ⟨@Nat.zero_add, ⟨@q_condB_eq_2, @q_mapO_eq_1⟩⟩⟩⟩, ⟨⟨⟨@q_mapT_eq_1, @q_mapT_eq_2⟩, ⟨@q_List_map_nil, ⟨@q_cutInt_eq_8, @q_List_map_cons⟩⟩⟩, ⟨⟨@q_V_owns_eq_1, @q_V_toNew_eq_1⟩, ⟨@q_awl_eq_10, ⟨@q_endL_eq_1, @q_endV_eq_1⟩⟩⟩⟩⟩⟩, ⟨⟨⟨⟨⟨@q_resL_eq_1, @q_resL_eq_2⟩, ⟨@q_resX_eq_1, @q_one_eq_1⟩⟩, ⟨⟨@q_Bool_not_true, @q_awl_eq_1⟩, ⟨@q_AOp_dst_eq_10, ⟨@q_V_nrm_eq_1, @decide_true⟩⟩⟩⟩, ⟨⟨⟨@lookO_here, @q_endK_eq_2⟩, ⟨@q_K_nrm_eq_1, ⟨@q_C_norm_eq_4, @q_C_norm_eq_5⟩⟩⟩, ⟨⟨@norm_lst, @q_lookO_eq_1⟩, ⟨@q_AOp_dst_eq_1, ⟨@q_vPick_eq_1, @decide_false⟩⟩⟩⟩⟩, ⟨⟨⟨⟨@q_exL_eq_3, @q_exL_eq_30⟩, ⟨@q_List_length_nil, @q_K_owns_eq_2⟩⟩, ⟨⟨@q_K_toNew_eq_1, @q_awl_eq_7⟩, ⟨@q_Bool_not_false, ⟨@r_vLen_lst, @q_exL_eq_8⟩⟩⟩⟩, ⟨⟨⟨@Bool.false_eq_true, @Nat.le_refl⟩, ⟨@q_exK_eq_1, ⟨@q_List_length_cons, @q_AOp_dst_eq_8⟩⟩⟩, ⟨⟨@q_guardP_eq_1, @q_vLoad_eq_2⟩, ⟨@q_guardP_eq_2, ⟨@q_insO_eq_1, @r_vIaddr_lst⟩⟩⟩⟩⟩⟩⟩, ⟨⟨⟨⟨⟨⟨@q_mapO_eq_2, @Int.toNat_natCast⟩, ⟨@q_List_drop_zero, @q_List_take_zero⟩⟩, ⟨⟨@q_partV_eq_2, @q_List_getD_cons_zero⟩, ⟨@ints_len, ⟨@q_List_take_succ_cons, @q_AE_inBlockL_eq_1⟩⟩⟩⟩, ⟨⟨⟨@q_cutInt_eq_1, @q_AE_thenL_eq_3⟩, ⟨@q_Option_map_some, @q_pureRow_eq_1⟩⟩, ⟨⟨@q_pureRow_eq_2, @q_wpLQs_eq_2⟩, ⟨@q_wpLQ_eq_1, ⟨@q_putDL_eq_1, @q_freeB_eq_1⟩⟩⟩⟩⟩, ⟨⟨⟨⟨@q_freeT_eq_1, @q_freeT_eq_2⟩, ⟨@q_freeO_eq_1, @q_V_noRef_eq_1⟩⟩, ⟨⟨@Bool.and_true, @Bool.or_true⟩, ⟨@q_K_noRef_eq_1, ⟨@q_List_drop_succ_cons, @q_exL_eq_23⟩⟩⟩⟩, ⟨⟨⟨@q_loadO_eq_1, @q_isV_eq_1⟩, ⟨@q_vLoad_eq_1, ⟨@Nat.add_zero, @q_AOp_dst_eq_20⟩⟩⟩, ⟨⟨@q_isVarO_eq_1, @q_cutInt_eq_6⟩, ⟨@q_exLQ_eq_1, ⟨@q_AOp_dst_eq_22, @not_false_eq_true⟩⟩⟩⟩⟩⟩, ⟨⟨⟨⟨⟨@q_ofRow_eq_1, @q_cutInt_eq_10⟩, ⟨@q_exL_eq_28, @q_K_nrm_eq_3⟩⟩, ⟨⟨@q_wpLQs_eq_1, @q_awl_eq_9⟩, ⟨@q_AE_thenL_eq_2, ⟨@q_AE_inBlockL_eq_2, @q_exL_eq_21⟩⟩⟩⟩, ⟨⟨⟨@q_vFaddr_eq_1, @q_K_nrm_eq_2⟩, ⟨@q_AOp_dst_eq_27, ⟨@q_V_nrm_eq_5, @lookO_next⟩⟩⟩, ⟨⟨@q_initT_eq_1, @q_awl_eq_3⟩, ⟨@q_exLQ_eq_9, ⟨@q_freeO_eq_2, @q_initT_eq_2⟩⟩⟩⟩⟩, ⟨⟨⟨⟨@q_AE_inBlockL_eq_3, @q_vUn_eq_1⟩, ⟨@q_unV_eq_2, @q_mapC_eq_1⟩⟩, ⟨⟨@q_K_noRef_eq_2, @q_O_noRef_eq_2⟩, ⟨@normRows_ints, ⟨@q_cutInt_eq_11, @q_C_normRow_eq_1⟩⟩⟩⟩, ⟨⟨⟨@q_C_normRow_eq_2, @q_exLQ_eq_12⟩, ⟨@Int.natCast_nonneg, ⟨@q_exL_eq_15, @q_exLQ_eq_24⟩⟩⟩, ⟨⟨@q_vFaddr_eq_3, @Bool.false_or⟩, ⟨@q_List_foldl_nil, ⟨@q_V_nrm_eq_2, @q_cutInt_eq_7⟩⟩⟩⟩⟩⟩⟩⟩, ⟨⟨⟨⟨⟨⟨⟨@q_vPick_eq_2, @q_AOp_dst_eq_32⟩, ⟨@q_exLQ_eq_3, @q_delO_eq_1⟩⟩, ⟨⟨@q_delO_eq_2, @q_vLits_eq_1⟩, ⟨@q_List_replicate_zero, ⟨@q_List_nil_append, @q_O_nrm_eq_1⟩⟩⟩⟩, ⟨⟨⟨@q_List_foldl_cons, @q_splice_eq_1⟩, ⟨@q_exLQ_eq_22, @Bool.true_and⟩⟩, ⟨⟨@q_AOp_dst_eq_3, @or_false⟩, ⟨@q_vLits_eq_2, ⟨@q_List_replicate_succ, @q_List_set_cons_zero⟩⟩⟩⟩⟩, ⟨⟨⟨⟨@q_vRow_eq_1, @q_exKQ_eq_1⟩, ⟨@q_List_getD_cons_succ, @q_vPick_eq_3⟩⟩, ⟨⟨@q_V_noRef_eq_2, @q_AOp_dst_eq_14⟩, ⟨@q_List_cons_append, ⟨@q_stVarK_eq_1, @q_storeK_eq_1⟩⟩⟩⟩, ⟨⟨⟨@q_cutInt_eq_2, @q_K_noRef_eq_5⟩, ⟨@q_exL_eq_2, ⟨@q_exL_eq_7, @q_bsK_eq_1⟩⟩⟩, ⟨⟨@q_V_cells_eq_1, @Bool.and_eq_true⟩, ⟨@q_nlApp_eq_2, ⟨@z_V_k, @z_K_c⟩⟩⟩⟩⟩⟩, ⟨⟨⟨⟨⟨@z_frzT, @z_frzO⟩, ⟨@Int.cast_ofNat_Int, @q_isArrO_eq_1⟩⟩, ⟨⟨@z_K_own_arr, @Nat.succ_ne_self⟩, ⟨@q_vIaddr_eq_2, ⟨@q_idxO_eq_1, @q_K_owns_eq_1⟩⟩⟩⟩, ⟨⟨⟨@q_K_toNew_eq_2, @q_appK_eq_1⟩, ⟨@q_appendK_eq_1, ⟨@q_V_scrub_eq_1, @q_K_scrub_eq_1⟩⟩⟩, ⟨⟨@q_K_scrub_eq_5, @q_awl_eq_14⟩, ⟨@q_O_nrm_eq_2, ⟨@q_exLQ_eq_29, @q_O_scrub_eq_2⟩⟩⟩⟩⟩, ⟨⟨⟨⟨@q_exLQ_eq_10, @q_exLQ_eq_33⟩, ⟨@q_exL_eq_9, @q_partV_eq_1⟩⟩, ⟨⟨@q_ofRow_eq_2, @q_vIaddr_eq_1⟩, ⟨@q_loadO_eq_2, ⟨@q_isA_eq_1, @q_vLoad_eq_3⟩⟩⟩⟩, ⟨⟨⟨@q_srcV_eq_1, @z_O_arr⟩, ⟨@q_K_noRef_eq_3, ⟨@q_O_noRef_eq_1, @q_List_all_cons⟩⟩⟩, ⟨⟨@q_List_all_nil, @q_C_normRows_eq_1⟩, ⟨@q_exLQ_eq_8, ⟨@q_exLQ_eq_36, @q_bsQ_eq_1⟩⟩⟩⟩⟩⟩⟩, ⟨⟨⟨⟨⟨⟨@q_exL_eq_24, @Int.toNat_zero⟩, ⟨@Nat.mul_one, @q_regN_eq_1⟩⟩, ⟨⟨@q_V_reg_eq_4, @q_freesL_eq_1⟩, ⟨@q_addsL_eq_1, ⟨@q_regK_eq_1, @q_retK_eq_2⟩⟩⟩⟩, ⟨⟨⟨@q_cutInt_eq_9, @q_exL_eq_4⟩, ⟨@q_V_cells_eq_2, @q_AOp_dst_eq_23⟩⟩, ⟨⟨@q_exL_eq_33, @q_K_scrub_eq_2⟩, ⟨@q_O_scrub_eq_1, ⟨@q_guardP_eq_3, @q_vRow_eq_2⟩⟩⟩⟩⟩, ⟨⟨⟨⟨@q_srcO_eq_1, @q_srcV_eq_2⟩, ⟨@z_frzT0, @z_frzO0⟩⟩, ⟨⟨@q_vLen_eq_1, @q_V_fz_eq_1⟩, ⟨@q_K_fz_eq_2, ⟨@q_vBuild_eq_1, @q_vBuild_eq_2⟩⟩⟩⟩, ⟨⟨⟨@q_rowV_eq_1, @q_exL_eq_6⟩, ⟨@q_C_norm_eq_2, ⟨@q_stArrK_eq_1, @q_storeK_eq_2⟩⟩⟩, ⟨⟨@q_K_noRef_eq_4, @q_vIaddrA_eq_3⟩, ⟨@q_C_norm_eq_1, ⟨@q_appNK_eq_1, @q_appendK_eq_2⟩⟩⟩⟩⟩⟩, ⟨⟨⟨⟨⟨@q_pureRow_eq_3, @q_V_scrub_eq_3⟩, ⟨@q_exL_eq_5, @q_boxK_eq_1⟩⟩, ⟨⟨@q_vIaddrA_eq_1, @Bool.true_or⟩, ⟨@q_List_set_cons_succ, ⟨@q_exL_eq_14, @q_vLen_eq_2⟩⟩⟩⟩, ⟨⟨⟨@q_lenO_eq_1, @q_C_norm_eq_3⟩, ⟨@false_implies, ⟨@q_exL_eq_18, @q_mkslK_eq_1⟩⟩⟩, ⟨⟨@q_AOp_dst_eq_13, @q_K_scrub_eq_3⟩, ⟨@q_V_noRef_eq_5, ⟨@q_V_scrub_eq_4, @q_exLQ_eq_16⟩⟩⟩⟩⟩, ⟨⟨⟨⟨@q_vFaddr_eq_4, @q_vLoad_eq_4⟩, ⟨@z_V_agg, @q_vNil_eq_2⟩⟩, ⟨⟨@q_nilO_eq_1, @q_vInts_eq_1⟩, ⟨@q_vInts_eq_2, ⟨@q_foldV_eq_1, @q_vMinmax_eq_1⟩⟩⟩⟩, ⟨⟨⟨@q_minmaxI_eq_1, @z_O_var⟩, ⟨@z_K_ptr_arr, ⟨@q_C_normRows_eq_2, @q_AOp_dst_eq_7⟩⟩⟩, ⟨⟨@z_K_elem_arr, @q_awl_eq_11⟩, ⟨@q_keepT_eq_1, ⟨@q_keepT_eq_2, @q_keepO_eq_1⟩⟩⟩⟩⟩⟩⟩⟩⟩
end Go.Abs


namespace Go.Abs
section
variable {P : Program}
theorem shape_int {n : Nat} {t : TypeId} {r : List C} {k : IntKind} (hu : P.underlying t = some (.int k)) (h : Shape P n t r) : ∃ m : Int, r = [.int k m] ∧ (Lit.int k m).wf = true := by
  cases n with
  | zero => exact h.elim
  | succ n => simp only [Shape, hu] at h; exact h
theorem shape_slice {n : Nat} {t e : TypeId} {r : List C} (hu : P.underlying t = some (.slice e)) (h : Shape P n t r) : ∃ m rows, n = m + 1 ∧ r = [lstC (P.cellsOf e) rows] ∧ rows.length ≤ 9223372036854775807 ∧ ∀ x ∈ rows, Shape P m e x := by
  cases n with
  | zero => exact h.elim
  | succ n => simp only [Shape, hu] at h; obtain ⟨rows, h1, h2, h3⟩ := h; exact ⟨n, rows, rfl, h1, h2, h3⟩
theorem shape_struct {n : Nat} {t : TypeId} {fs : Array Field} {r : List C} (hu : P.underlying t = some (.struct fs)) (h : Shape P n t r) : ∃ m rs, n = m + 1 ∧ r = rs.flatten ∧ ShapeL (Shape P m) (fs.toList.map (·.type)) rs := by
  cases n with
  | zero => exact h.elim
  | succ n => simp only [Shape, hu] at h; obtain ⟨rs, h1, h2⟩ := h; exact ⟨n, rs, rfl, h1, h2⟩
theorem shapeL3 {S : TypeId → List C → Prop} {a b c : TypeId} {rs : List (List C)} (h : ShapeL S [a, b, c] rs) : ∃ x y z, rs = [x, y, z] ∧ S a x ∧ S b y ∧ S c z := by
  match rs, h with
  | [x, y, z], h => exact ⟨x, y, z, rfl, h.1, h.2.1, h.2.2.1⟩
theorem rows_of {α : Type} {S : List C → Prop} (enc : α → List C) (hS : ∀ r, S r → ∃ a, r = enc a) : ∀ (rows : List (List C)), (∀ r ∈ rows, S r) → ∃ l : List α, rows = l.map enc
  | [], _ => ⟨[], rfl⟩
  | r :: rows, h => by
    obtain ⟨a, ha⟩ := hS r (h r (by simp))
    obtain ⟨l, hl⟩ := rows_of enc hS rows (fun x hx => h x (by simp [hx]))
    exact ⟨a :: l, by rw [ha, hl]; rfl⟩
variable {tI tB tS tT tLT tR tLR tC tLC tO : TypeId}
theorem arg_int {n : Nat} {t : TypeId} {r : List C} {k : IntKind} (hu : P.underlying t = some (.int k)) (hr : Shape P n t r) : ∃ m : Int, argV P t r = .int k m ∧ (Lit.int k m).wf = true := by
  obtain ⟨m, rfl, h⟩ := shape_int hu hr
  exact ⟨m, by simp only [argV, hu], h⟩
end
end Go.Abs


namespace Go.Abs
section
variable {P : Program}
end
end Go.Abs


namespace Go.Abs
open Go.Proofs Go.RowKit
theorem Spec.of_awlP {P : Program} {f : FuncId} {n : Nat} {c : AQ} {rs : List RX} {args : List V} {X : V} (hc : cFunc P f = some ⟨n, c.erase, rs⟩) (hok : c.ok = true) (hlen : args.length ≤ n)
    (h : ∀ S : V → Prop, (∀ r, r.fz.nrm = X → S r) → awl P c (endK rs S) (initT 0 args) []) : Spec P f args (fun r => r = X) :=
  (Spec.of_awl hc hok hlen (h (fun r => r.fz.nrm = X) fun _ h => h)).plain.mono (by rintro r' ⟨r, h, rfl⟩; exact h)
theorem callable_at {P : Program} {f : FuncId} (h : (match P.funcs[f]? with | some fn => fn.body.isSome && !(fn.name == "runtime.NumGoroutine") | none => false) = true) : Callable P f := by
  unfold Callable
  cases hf : P.funcs[f]? with
  | none => rw [hf] at h; simp at h
  | some fn => rw [hf] at h; simp only [Bool.and_eq_true, Bool.not_eq_true'] at h; exact ⟨fn, rfl, h.1, h.2⟩
theorem kept_of_below {w w' : World} (h : Below w.heap.size w w') : Kept w w' := ⟨h.os, h.tape, h.output, h.size, h.block⟩
def C.sc : C → Bool
  | .int _ _ => true
  | .bool _ => true
  | .str _ => true
  | _ => false
def valC : C → Value
  | .int k n => .int k n
  | .bool b => .bool b
  | .str s => .string ⟨s.toArray⟩
  | _ => .bool false
theorem sc_val {w : World} {Z : Bk → Prop} {c : C} {v : Value} (hc : c.sc = true) (h : PRep w Z c v) : v = valC c := by
  cases h <;> first | rfl | cases hc
theorem sc_rep {w : World} {Z : Bk → Prop} {c : C} (hc : c.sc = true) : PRep w Z c (valC c) := by
  cases c <;> first | exact .int _ _ | exact .bool _ | exact .str _ | cases hc
theorem sc_one {c : C} (hc : c.sc = true) : (valC c).oneCell' = true := (sc_rep (w := default) (Z := fun _ => False) hc).oneCell
theorem flat_get {α : Type} {sz : Nat} (h0 : 0 < sz) : ∀ (rows : List (List α)) (k : Nat) (c : α), (∀ r, r ∈ rows → r.length = sz) → rows.flatten[k]? = some c → ∃ i j r, rows[i]? = some r ∧ r[j]? = some c ∧ k = i * sz + j
  | [], k, c, _, h => by simp at h
  | r :: rows, k, c, hl, h => by
    have hr := hl r List.mem_cons_self
    rw [List.flatten_cons] at h
    by_cases hk : k < sz
    · rw [List.getElem?_append_left (by omega)] at h
      exact ⟨0, k, r, rfl, h, by omega⟩
    · rw [List.getElem?_append_right (by omega)] at h
      obtain ⟨i, j, r', h1, h2, h3⟩ := flat_get h0 rows (k - r.length) c (fun r' hr' => hl r' (List.mem_cons_of_mem _ hr')) h
      exact ⟨i + 1, j, r', h1, h2, by rw [Nat.add_mul]; omega⟩
theorem flat_at {α : Type} {sz : Nat} : ∀ (rows : List (List α)) (i j : Nat) (r : List α) (c : α), (∀ r, r ∈ rows → r.length = sz) → rows[i]? = some r → r[j]? = some c → rows.flatten[i * sz + j]? = some c
  | [], i, j, r, c, _, h, _ => by simp at h
  | r0 :: rows, 0, j, r, c, hl, h, hc => by
    cases h
    have hj := (List.getElem?_eq_some_iff.1 hc).1
    rw [List.flatten_cons, Nat.zero_mul, Nat.zero_add, List.getElem?_append_left hj]
    exact hc
  | r0 :: rows, i + 1, j, r, c, hl, h, hc => by
    have hr := hl r0 List.mem_cons_self
    rw [List.flatten_cons, Nat.add_mul, List.getElem?_append_right (by omega), show i * sz + 1 * sz + j - r0.length = i * sz + j by omega]
    exact flat_at rows i j r c (fun r' hr' => hl r' (List.mem_cons_of_mem _ hr')) h hc
def cellsC (rows : List (List C)) : List Value := rows.flatten.map valC
structure Plain (sz : Nat) (rows : List (List C)) : Prop where
  pos : 0 < sz
  len : ∀ r, r ∈ rows → r.length = sz
  sc : ∀ r, r ∈ rows → ∀ c, c ∈ r → c.sc = true
theorem Plain.one {sz : Nat} {rows : List (List C)} (h : Plain sz rows) : ∀ u ∈ cellsC rows, u.oneCell' = true := by
  intro u hu
  obtain ⟨c, hc, rfl⟩ := List.mem_map.1 hu
  obtain ⟨r, hr, hcr⟩ := List.mem_flatten.1 hc
  exact sc_one (h.sc r hr c hcr)
theorem Plain.at {sz : Nat} {rows : List (List C)} (h : Plain sz rows) {i j : Nat} {r : List C} {c : C} (hr : rows[i]? = some r) (hc : r[j]? = some c) : (cellsC rows)[i * sz + j]? = some (valC c) ∧ c.sc = true := by
  refine ⟨?_, h.sc r (List.mem_of_getElem? hr) c (List.mem_of_getElem? hc)⟩
  rw [cellsC, List.getElem?_map, flat_at rows i j r c h.len hr hc]; rfl
theorem Plain.slice {sz : Nat} {rows : List (List C)} (h : Plain sz rows) {w : World} {Z : Bk → Prop} {v : Value} (hv : PRep w Z (lstC sz rows) v) :
    ∃ p cap, v = .slice p rows.length cap ∧ (0 < rows.length → ∃ b o, p = some ⟨b, o, none⟩ ∧ ∀ j u, (cellsC rows)[j]? = some u → w.cell? ⟨b, o + j, none⟩ = some u) ∧ (0 < rows.length → rows.length ≤ cap) := by
  unfold lstC at hv
  by_cases h0 : rows = []
  · subst h0
    have h' : PRep w Z (.list 0 none []) v := hv
    generalize hc : C.list 0 none [] = c at h'
    cases h' with
    | nil => exact ⟨none, 0, rfl, fun hk => absurd hk (by simp), fun hk => absurd hk (by simp)⟩
    | emp _ _ a => exact ⟨some a, 0, rfl, fun hk => absurd hk (by simp), fun hk => absurd hk (by simp)⟩
    | list b o cap sz nl rws val =>
      injection hc with _ _ hr
      subst hr
      exact ⟨some ⟨b, o, none⟩, cap, rfl, fun hk => absurd hk (by simp), fun hk => absurd hk (by simp)⟩
    | _ => cases hc
  · have e : (if rows.isEmpty = true then 0 else sz) = sz := by cases rows <;> simp_all
    rw [e] at hv
    generalize hc : C.list sz none rows = c at hv
    cases hv with
    | nil => injection hc with _ _ hr; exact absurd hr h0
    | emp => injection hc with _ _ hr; exact absurd hr h0
    | list b o cap sz nl rws val h1 h2 h3 h4 h5 h6 h7 =>
      injection hc with hs _ hr
      subst hs hr
      refine ⟨some ⟨b, o, none⟩, cap, rfl, fun _ => ⟨b, o, rfl, fun k u hu => ?_⟩, fun _ => h2⟩
      rw [cellsC, List.getElem?_map] at hu
      obtain ⟨c, hc, rfl⟩ := Option.map_eq_some_iff.1 hu
      obtain ⟨i, j, r, g1, g2, rfl⟩ := flat_get h.pos rows k c h.len hc
      rw [h6 i j r c g1 g2, sc_val (h.sc r (List.mem_of_getElem? g1) c (List.mem_of_getElem? g2)) (h7 i j r c g1 g2)]
    | _ => cases hc
theorem tb1 {n τ : Nat} {a x : O} (h : tabOf n [a] τ = some x) : τ = n ∧ x = a := by
  unfold tabOf at h
  split at h
  · rename_i hle
    obtain ⟨k, rfl⟩ : ∃ k, τ = n + k := ⟨τ - n, by omega⟩
    rw [Nat.add_sub_cancel_left] at h
    match k, h with
    | 0, h => simp at h; exact ⟨rfl, h.symm⟩
    | k + 1, h => simp at h
  · cases h
theorem tb1n {n τ : Nat} {a : O} (h : tabOf n [a] τ ≠ none) : τ = n := by
  cases e : tabOf n [a] τ with
  | none => exact absurd e h
  | some x => exact (tb1 e).1
def encIs (l : List Int) : List C := [lstC 1 (ints l)]
def ill (l : List (List Int)) : List (List C) := l.map encIs
theorem ill_len (l : List (List Int)) : (ill l).length = l.length := by simp [ill]
theorem ill_at {l : List (List Int)} {i : Nat} (h : i < l.length) : (ill l).getD i [] = [lstC 1 (ints l[i])] := by simp [ill, encIs, h]
theorem normRows_ill (l : List (List Int)) : C.normRows (ill l) = ill l := normRows_eq (f := encIs) (fun x => by simp only [encIs, C.normRow, norm_lst, normRows_ints]) l
theorem rrep_ill {w w' : World} {Z : Bk → Prop} {e g : Nat} {ls : List (List Int)} {V : Nat → Value} (hG : GlobB (base w)) (hb : Below w.heap.size w w') (hg : w.heap.size ≤ g) (hn : ls.length ≤ maxLen) (hr : w'.rowIs g e ls.length V)
    (ho : ∀ i, i < ls.length → w'.ownsRow (g + 1) 3 1 (V i) (ls.getD i []).length ((ls.getD i []).map (Value.int .i64))) : RRep (base w) Z (.k (.newl e 1 none (ill ls))) (.slice (some ⟨g, 0, none⟩) ls.length ls.length) w' := by
  intro nn
  obtain ⟨cur, hc, hsz, hV⟩ := hr
  have hgl : g < w'.heap.size := (Array.getElem?_eq_some_iff.1 hc).1
  refine ⟨fun _ => some g, kept_of_below hb, hG, fun τ b _ h => ?_, fun τ τ' b ho ho' _ _ => (tb1n ho).trans (tb1n ho').symm, fun τ ob h => ?_, fun s => ?_⟩
  · cases h; exact ⟨Nat.not_lt.2 hg, hgl⟩
  · obtain ⟨rfl, rfl⟩ := tb1 h
    refine .inr ⟨g, cur, ls.length, rfl, hc, by decide, by rw [hsz, Nat.mul_one], by rw [ill_len]; exact Nat.le_refl _, hn, by simp, fun r hr => by obtain ⟨l, _, rfl⟩ := List.mem_map.1 hr; rfl, ?_⟩
    intro i j r c hr hcc
    have hi : i < ls.length := by have := (List.getElem?_eq_some_iff.1 hr).1; rwa [ill_len] at this
    have hr' : r = encIs ls[i] := by simp [ill, hi] at hr; exact hr.symm
    subst hr'
    match j, hcc with
    | 0, hcc =>
      simp [encIs] at hcc
      subst hcc
      refine ⟨V i, by rw [Nat.mul_one, Nat.add_zero]; exact hV i hi, ?_⟩
      have h := ho i hi
      have hgd : ls.getD i [] = ls[i] := by simp [List.getD, hi]
      rw [hgd] at h
      rcases h.2 with ⟨hv, h0⟩ | ⟨g2, cap, cur2, hv, h2, h3, h4, h5, h6, h7⟩
      · rw [hv, List.eq_nil_of_length_eq_zero h0]
        exact .nil _ _ (by simp)
      · rw [hv]
        have hl : (ints ls[i]).length = ls[i].length := ints_len _
        have key : PRep w' (Zof (base w) Z (fun _ => some g) (tabOf τ [.arr e 1 none (ill ls)]) w') (.list (if (ints ls[i]).isEmpty then 0 else 1) none (ints ls[i])) (.slice (some ⟨g2, 0, none⟩) (ints ls[i]).length cap) := by
          refine .list g2 0 cap _ none (ints ls[i]) (fun a b => .int .i64 (ls[i].getD a 0)) (by simp) (by rw [hl]; exact h4) h5 (fun hne => ?_) (fun r hr => ?_) (fun a b r c hr hcc => ?_) (fun a b r c hr hcc => ?_)
          · refine ⟨.inr ⟨Nat.not_lt.2 (show w.heap.size ≤ g2 by omega), fun cur' e' f' hh => ?_⟩, (Array.getElem?_eq_some_iff.1 h3).1, fun τ _ hk => by injection hk with hk; omega⟩
            have hh' : w'.heap[g2]? = some (.cells cur' e' f') := hh
            rw [h3] at hh'; cases hh'; rfl
          · obtain ⟨x, hx, rfl⟩ := List.mem_map.1 hr
            have : (ints ls[i]).isEmpty = false := by
              rw [ints_isEmpty]; cases hq : ls[i] with
              | nil => rw [hq] at hx; cases hx
              | cons => rfl
            rw [this]; rfl
          all_goals
            have ha : a < ls[i].length := by have := (List.getElem?_eq_some_iff.1 hr).1; rwa [hl] at this
            have hr' : r = [.int .i64 ls[i][a]] := by simp [ints, ha] at hr; exact hr.symm
            subst hr'
            match b, hcc with
            | 0, hcc =>
              simp at hcc
              subst hcc
              have e0 : ls[i].getD a 0 = ls[i][a] := by simp [List.getD, ha]
              rw [e0]
              first
                | exact .int _ _
                | (have hne : (ints ls[i]).isEmpty = false := by
                     rw [ints_isEmpty]; cases hq : ls[i] with
                     | nil => rw [hq] at ha; exact absurd ha (by simp)
                     | cons => rfl
                   rw [hne]
                   have h8 := congrArg (fun l : List Value => l[a]?) h7
                   simp only [Nat.mul_one, List.getElem?_take_of_lt ha, List.getElem?_map, List.getElem?_eq_getElem ha, Option.map_some] at h8
                   rw [Array.getElem?_toList] at h8
                   simp only [World.cell?, h3]
                   simpa using h8)
        rw [hl] at key
        exact key
    | j + 1, hcc => simp [encIs] at hcc
  · by_cases hs : s = 0
    · subst hs
      simp only [if_true]
      refine ⟨rfl, fun e' sz' nl' rows' h => ?_⟩
      obtain ⟨_, h2⟩ := tb1 h
      cases h2
      exact .inr ⟨g, cur, ls.length, rfl, hc, by rw [hsz, Nat.mul_one], by rw [ill_len]; rfl⟩
    · simp only [hs, if_false]; trivial
end Go.Abs


set_option maxRecDepth 100000
namespace Go.Abs
structure Dr where
  d : Int
  a : Int
  s : Int
  y : Int
  u : Int
  c : Int
def dr0 : Dr := ⟨0, 0, 0, 0, 0, 0⟩
def dat (l : List Dr) (i : Int) : Dr := l.getD i.toNat dr0
def CovOk (l : List Dr) : Prop := ∀ i : Int, 0 ≤ i → i < l.length → (dat l i).c = -1 ∨ (0 ≤ (dat l i).c ∧ (dat l i).c < i)
def anc (l : List Dr) : Nat → Int → Int
  | 0, x => x
  | k + 1, x => (dat l (anc l k x)).c
theorem anc_add (l : List Dr) (i : Nat) (x : Int) : ∀ j, anc l (i + j) x = anc l j (anc l i x)
  | 0 => rfl
  | j + 1 => by
    show (dat l (anc l (i + j) x)).c = (dat l (anc l j (anc l i x))).c
    rw [anc_add l i x j]
def vld (l : List Dr) (x : Int) (k : Nat) : Prop := x < l.length ∧ ∀ j, j ≤ k → 0 ≤ anc l j x
theorem vld.le {l : List Dr} {x : Int} {k j : Nat} (h : vld l x k) (hj : j ≤ k) : vld l x j := ⟨h.1, fun i hi => h.2 i (by omega)⟩
theorem vld.dec {l : List Dr} (hc : CovOk l) {x : Int} {k : Nat} (h : vld l x k) : ∀ j, j ≤ k → anc l j x + j ≤ x
  | 0, _ => by simp [anc]
  | j + 1, hj => by
    have ih := h.dec hc j (by omega)
    have h0 := h.2 j (by omega)
    have h1 := h.2 (j + 1) hj
    have hr := hc (anc l j x) h0 (by have := h.1; omega)
    have e : anc l (j + 1) x = (dat l (anc l j x)).c := rfl
    rw [e] at h1 ⊢
    push_cast
    omega
theorem vld.rng {l : List Dr} (hc : CovOk l) {x : Int} {k j : Nat} (h : vld l x k) (hj : j ≤ k) : 0 ≤ anc l j x ∧ anc l j x < l.length := ⟨h.2 j hj, by have := h.dec hc j hj; have := h.1; omega⟩
theorem vld.up {l : List Dr} (hc : CovOk l) {x : Int} {k j i : Nat} (h : vld l x k) (hj : j + i ≤ k) : vld l (anc l j x) i := ⟨(h.rng hc (by omega)).2, fun m hm => by rw [← anc_add]; exact h.2 _ (by omega)⟩
theorem vld.lt {l : List Dr} (hc : CovOk l) {x : Int} {k i j : Nat} (h : vld l x k) (hij : i < j) (hj : j ≤ k) : anc l j x < anc l i x := by
  have h1 := (h.up hc (j := i) (i := j - i) (by omega)).dec hc (j - i) (Nat.le_refl _)
  rw [← anc_add, show i + (j - i) = j by omega] at h1
  omega
theorem vld.inj {l : List Dr} (hc : CovOk l) {x : Int} {k i j : Nat} (h : vld l x k) (hi : i ≤ k) (hj : j ≤ k) (e : anc l i x = anc l j x) : i = j := by
  rcases Nat.lt_trichotomy i j with g | g | g
  · have := h.lt hc g hj; omega
  · exact g
  · have := h.lt hc g hi; omega
def chn (l : List Dr) (x : Int) (k : Nat) : List Int := ((List.range (k + 1)).map fun j => anc l j x).reverse
theorem chn_len (l : List Dr) (x : Int) (k : Nat) : (chn l x k).length = k + 1 := by simp [chn]
theorem chn_at {l : List Dr} {x : Int} {k i : Nat} (h : i < (chn l x k).length) : (chn l x k)[i] = anc l (k - i) x := by
  simp [chn, List.getElem_reverse]
theorem chn_getD {l : List Dr} {x : Int} {k i : Nat} (h : i ≤ k) : (chn l x k).getD i 0 = anc l (k - i) x := by
  rw [List.getD_eq_getElem?_getD, List.getElem?_eq_getElem (by rw [chn_len]; omega), Option.getD_some, chn_at]
theorem chn_succ (l : List Dr) (x : Int) (k : Nat) : chn l x (k + 1) = anc l (k + 1) x :: chn l x k := by
  unfold chn
  rw [List.range_succ, List.map_append, List.reverse_append]; rfl
theorem chn_ne (l : List Dr) (x : Int) (k : Nat) : chn l x k ≠ [] := by intro h; have := chn_len l x k; rw [h] at this; cases this
def clo (l : List Dr) (x : Int) (k : Nat) : Prop := 1 ≤ k ∧ vld l x k ∧ (dat l (anc l k x)).d = (dat l x).a
def isK (l : List Dr) (x : Int) (k : Nat) : Prop := clo l x k ∧ ∀ j i, clo l (anc l j x) i → j + i ≤ k → j = 0 ∧ i = k
theorem isK.uniq {l : List Dr} {x : Int} {k k' : Nat} (h : isK l x k) (h' : isK l x k') : k = k' := by
  rcases Nat.le_total k k' with g | g
  · exact (h'.2 0 k h.1 (by omega)).2
  · exact ((h.2 0 k' h'.1 (by omega)).2).symm
def upG (l : List Dr) (a : Int) : Nat → Int → List Int → List Int
  | 0, _, _ => []
  | m + 1, i, ch => if i = -1 then [] else if (dat l i).d = a then (ch ++ [i]).reverse else upG l a m (dat l i).c (ch ++ [i])
def closG (l : List Dr) (x : Int) : List Int := upG l (dat l x).a l.length (dat l x).c [x]
theorem chn_rev (l : List Dr) (x : Int) (k : Nat) : (chn l x k).reverse ++ [anc l (k + 1) x] = (chn l x (k + 1)).reverse := by
  rw [chn_succ, List.reverse_cons]
theorem upG_spec {l : List Dr} (hc : CovOk l) {x : Int} : ∀ (m k : Nat), vld l x k → anc l (k + 1) x < m → (∀ i, 1 ≤ i → i ≤ k → (dat l (anc l i x)).d ≠ (dat l x).a) →
    (upG l (dat l x).a m (anc l (k + 1) x) (chn l x k).reverse = [] ∧ ∀ i, ¬ clo l x i) ∨ ∃ i, upG l (dat l x).a m (anc l (k + 1) x) (chn l x k).reverse = chn l x i ∧ clo l x i ∧ ∀ j, clo l x j → i ≤ j
  | m, k, hv, hm, hn => by
    have hr := hc (anc l k x) (hv.rng hc (Nat.le_refl k)).1 (hv.rng hc (Nat.le_refl k)).2
    have e : anc l (k + 1) x = (dat l (anc l k x)).c := rfl
    have hno : ∀ i, clo l x i → k + 1 ≤ i := fun i hi => Classical.byContradiction fun h => hn i hi.1 (by omega) hi.2.2
    by_cases h1 : anc l (k + 1) x = -1
    · refine .inl ⟨?_, fun i hi => ?_⟩
      · cases m with
        | zero => rfl
        | succ m => rw [upG, if_pos h1]
      · have := hno i hi
        have := hi.2.1.2 (k + 1) (by omega)
        omega
    · have h0 : 0 ≤ anc l (k + 1) x := by rw [e] at h1 ⊢; omega
      have hv1 : vld l x (k + 1) := ⟨hv.1, fun j hj => by
        by_cases ej : j = k + 1
        · rw [ej]; exact h0
        · exact hv.2 j (by omega)⟩
      cases m with
      | zero => omega
      | succ m =>
        rw [upG, if_neg h1]
        by_cases h2 : (dat l (anc l (k + 1) x)).d = (dat l x).a
        · rw [if_pos h2, chn_rev, List.reverse_reverse]
          exact .inr ⟨k + 1, rfl, ⟨by omega, hv1, h2⟩, hno⟩
        · rw [if_neg h2, chn_rev]
          have hl := hv1.lt hc (Nat.lt_succ_self k) (Nat.le_refl _)
          have hr2 := hc (anc l (k + 1) x) h0 (hv1.rng hc (Nat.le_refl _)).2
          have e2 : anc l (k + 1 + 1) x = (dat l (anc l (k + 1) x)).c := rfl
          refine upG_spec hc m (k + 1) hv1 (by rw [e2]; push_cast at hm; omega) fun i i1 i2 => ?_
          by_cases ei : i = k + 1
          · rw [ei]; exact h2
          · exact hn i i1 (by omega)
theorem closG_spec {l : List Dr} (hc : CovOk l) {x : Int} (h0 : 0 ≤ x) (hx : x < l.length) : (closG l x = [] ∧ ∀ i, ¬ clo l x i) ∨ ∃ i, closG l x = chn l x i ∧ clo l x i ∧ ∀ j, clo l x j → i ≤ j := by
  have := hc x h0 hx
  exact upG_spec hc l.length 0 ⟨hx, fun j hj => by obtain rfl : j = 0 := by omega
                                                   exact h0⟩ (by show (dat l x).c < _; omega) (fun i h1 h2 => by omega)
def firstG (l : List Dr) (x : Int) : Int := (closG l x).headD (-1)
def wholeG (l : List Dr) (x : Int) : Bool := decide (closG l x ≠ []) && ((closG l x).dropLast.all fun y => decide (firstG l y < (closG l x).headD (-1)))
theorem chn_head (l : List Dr) (x : Int) (k : Nat) (z : Int) : (chn l x k).headD z = anc l k x := by
  cases k with
  | zero => rfl
  | succ k => rw [chn_succ]; rfl
theorem chn_mem {l : List Dr} {x y : Int} {k : Nat} : y ∈ chn l x k ↔ ∃ j, j ≤ k ∧ y = anc l j x := by
  unfold chn
  simp only [List.mem_reverse, List.mem_map, List.mem_range]
  constructor
  · rintro ⟨j, h1, h2⟩; exact ⟨j, by omega, h2.symm⟩
  · rintro ⟨j, h1, h2⟩; exact ⟨j, by omega, h2.symm⟩
theorem chn_dropLast (l : List Dr) (x : Int) (k : Nat) : (chn l x (k + 1)).dropLast = chn l (anc l 1 x) k := by
  apply List.ext_getElem
  · rw [List.length_dropLast, chn_len, chn_len]; omega
  · intro i h1 h2
    rw [chn_len] at h2
    rw [List.getElem_dropLast, chn_at, chn_at, ← anc_add]
    congr 1; omega
theorem firstG_lt {l : List Dr} (hc : CovOk l) {x : Int} {k : Nat} (hv : vld l x k) : ∀ j, j ≤ k → (firstG l (anc l j x) < anc l k x ↔ ∀ i, clo l (anc l j x) i → k < j + i) := by
  intro j hj
  obtain ⟨r0, r1⟩ := hv.rng hc hj
  have hk := hv.2 k (Nat.le_refl k)
  unfold firstG
  rcases closG_spec hc r0 r1 with ⟨h1, h2⟩ | ⟨i, h1, h2, h3⟩
  · rw [h1]
    exact ⟨fun _ i hi => absurd hi (h2 i), fun _ => by show (-1 : Int) < _; omega⟩
  · rw [h1, chn_head, ← anc_add]
    constructor
    · intro h i' hi'
      have := h3 i' hi'
      refine Classical.byContradiction fun hn => ?_
      rcases Nat.lt_or_ge (j + i) k with g | g
      · have := hv.lt hc g (Nat.le_refl k); omega
      · have : j + i = k := by omega
        rw [this] at h; omega
    · intro h
      have hi := h i h2
      have hv2 : vld l (anc l j x) i := h2.2.1
      have hl := hv2.lt hc (i := k - j) (j := i) (by omega) (Nat.le_refl i)
      rw [← anc_add, ← anc_add, show j + (k - j) = k by omega] at hl
      exact hl
theorem whole_iff {l : List Dr} (hc : CovOk l) {x : Int} (h0 : 0 ≤ x) (hx : x < l.length) : (wholeG l x = true ↔ ∃ k, isK l x k) ∧ ∀ k, isK l x k → closG l x = chn l x k := by
  rcases closG_spec hc h0 hx with ⟨h1, h2⟩ | ⟨i, h1, h2, h3⟩
  · refine ⟨⟨fun h => ?_, fun ⟨k, hk⟩ => absurd hk.1 (h2 k)⟩, fun k hk => absurd hk.1 (h2 k)⟩
    unfold wholeG at h
    rw [h1] at h; simp at h
  · have hki : ∀ k, isK l x k → k = i := fun k hk => by
      have := h3 k hk.1
      exact ((hk.2 0 i h2 (by omega)).2).symm
    refine ⟨⟨fun h => ⟨i, h2, fun j i' hj hle => ?_⟩, fun ⟨k, hk⟩ => ?_⟩, fun k hk => by rw [hki k hk, h1]⟩
    · unfold wholeG at h
      rw [h1, chn_head] at h
      simp only [Bool.and_eq_true, List.all_eq_true, decide_eq_true_eq] at h
      by_cases ej : j = 0
      · subst ej
        have := h3 i' hj
        exact ⟨rfl, by omega⟩
      · obtain ⟨i0, rfl⟩ : ∃ i0, i = i0 + 1 := ⟨i - 1, by have := h2.1; omega⟩
        have h4 := h.2 (anc l j x) (by
          rw [chn_dropLast]
          exact chn_mem.2 ⟨j - 1, by have := hj.1; omega, by rw [← anc_add]; congr 1; omega⟩)
        have := (firstG_lt hc h2.2.1 j (by omega)).1 h4 i' hj
        omega
    · obtain rfl := hki k hk
      unfold wholeG
      rw [h1, chn_head]
      simp only [Bool.and_eq_true, List.all_eq_true, decide_eq_true_eq]
      refine ⟨chn_ne _ _ _, fun y hy => ?_⟩
      obtain ⟨k0, rfl⟩ : ∃ k0, k = k0 + 1 := ⟨k - 1, by have := h2.1; omega⟩
      rw [chn_dropLast] at hy
      obtain ⟨j, hj, rfl⟩ := chn_mem.1 hy
      rw [← anc_add]
      refine (firstG_lt hc h2.2.1 (1 + j) (by omega)).2 fun i hi => ?_
      refine Classical.byContradiction fun hn => ?_
      have := (hk.2 (1 + j) i hi (by omega)).1
      omega
end Go.Abs


set_option maxRecDepth 100000
namespace Go.Abs
def hdI (l : List Int) : Int := l.getD 0 0
def upR (l : List Dr) (first : Int) : Nat → List Int → List Int
  | 0, out => out
  | m + 1, out => if hdI out > first then (if (dat l (hdI out)).c < first then [] else upR l first m ((dat l (hdI out)).c :: out)) else out
def chainR (l : List Dr) (first last : Int) : List Int := upR l first (last - first).toNat [last]
theorem hdI_chn (l : List Dr) (x : Int) (k : Nat) : hdI (chn l x k) = anc l k x := by
  cases k with
  | zero => rfl
  | succ k => rw [chn_succ]; rfl
theorem upR_spec {l : List Dr} (hc : CovOk l) {x first : Int} (h0 : 0 ≤ first) : ∀ (m k : Nat), vld l x k → first ≤ anc l k x → anc l k x ≤ first + m →
    (upR l first m (chn l x k) = [] ∧ ∀ i, vld l x i → anc l i x ≠ first) ∨ ∃ i, upR l first m (chn l x k) = chn l x i ∧ vld l x i ∧ anc l i x = first
  | 0, k, hv, h1, h2 => .inr ⟨k, rfl, hv, by omega⟩
  | m + 1, k, hv, h1, h2 => by
    rw [upR, hdI_chn]
    have hr := hc (anc l k x) (hv.rng hc (Nat.le_refl k)).1 (hv.rng hc (Nat.le_refl k)).2
    have e : anc l (k + 1) x = (dat l (anc l k x)).c := rfl
    by_cases g : anc l k x > first
    · rw [if_pos g]
      by_cases g2 : (dat l (anc l k x)).c < first
      · rw [if_pos g2]
        refine .inl ⟨rfl, fun i hi he => ?_⟩
        rcases Nat.lt_or_ge k i with c | c
        · by_cases ci : i = k + 1
          · rw [ci, e] at he; omega
          · have := hi.lt hc (i := k + 1) (j := i) (by omega) (Nat.le_refl i)
            omega
        · by_cases ci : i = k
          · subst ci; omega
          · have := hv.lt hc (i := i) (j := k) (by omega) (Nat.le_refl k)
            omega
      · rw [if_neg g2, ← e, ← chn_succ]
        have hv1 : vld l x (k + 1) := ⟨hv.1, fun j hj => by
          by_cases ej : j = k + 1
          · rw [ej, e]; omega
          · exact hv.2 j (by omega)⟩
        have := hv1.lt hc (Nat.lt_succ_self k) (Nat.le_refl _)
        exact upR_spec hc h0 m (k + 1) hv1 (by rw [e]; omega) (by push_cast at h2; omega)
    · rw [if_neg g]
      exact .inr ⟨k, rfl, hv, by omega⟩
theorem vld_zero {l : List Dr} {x : Int} (h0 : 0 ≤ x) (hx : x < l.length) : vld l x 0 := by
  refine ⟨hx, fun j hj => ?_⟩
  obtain rfl : j = 0 := by omega
  exact h0
theorem chainR_spec {l : List Dr} (hc : CovOk l) {x first : Int} (h0 : 0 ≤ first) (h1 : first ≤ x) (hx : x < l.length) :
    (chainR l first x = [] ∧ ∀ i, vld l x i → anc l i x ≠ first) ∨ ∃ i, chainR l first x = chn l x i ∧ vld l x i ∧ anc l i x = first :=
  upR_spec hc h0 (x - first).toNat 0 (vld_zero (by omega) hx) (by show first ≤ x; omega) (by show x ≤ _; omega)
def closesR (l : List Dr) (first last : Int) : Bool := decide ((chainR l first last).length > 1) && decide ((dat l last).a = (dat l first).d)
theorem closesR_iff {l : List Dr} (hc : CovOk l) {x first : Int} (h0 : 0 ≤ first) (h1 : first ≤ x) (hx : x < l.length) : closesR l first x = true ↔ ∃ k, anc l k x = first ∧ clo l x k := by
  unfold closesR
  simp only [Bool.and_eq_true, decide_eq_true_eq]
  rcases chainR_spec hc h0 h1 hx with ⟨e, h⟩ | ⟨i, e, hv, hi⟩
  · rw [e]
    exact ⟨fun h => absurd h.1 (by simp), fun ⟨k, hk1, hk2⟩ => absurd hk1 (h k hk2.2.1)⟩
  · rw [e, chn_len]
    constructor
    · rintro ⟨h1, h2⟩
      exact ⟨i, hi, by omega, hv, by rw [hi]; exact h2.symm⟩
    · rintro ⟨k, hk1, hk2, hk3, hk4⟩
      have : i = k := by
        rcases Nat.lt_trichotomy i k with g | g | g
        · have := hk3.lt hc g (Nat.le_refl k); omega
        · exact g
        · have := hv.lt hc g (Nat.le_refl i); omega
      subst this
      exact ⟨by omega, by rw [← hi]; exact hk4.symm⟩
def kiteR (l : List Dr) (first last : Int) : Bool :=
  closesR l first last && (List.range (chainR l first last).length).all fun i => (List.range (chainR l first last).length).all fun j =>
    !(decide (i < j) && decide (j - i + 1 < (chainR l first last).length) && closesR l ((chainR l first last).getD i 0) ((chainR l first last).getD j 0))
theorem kiteR_iff {l : List Dr} (hc : CovOk l) {x first : Int} (h0 : 0 ≤ first) (h1 : first ≤ x) (hx : x < l.length) : kiteR l first x = true ↔ ∃ k, anc l k x = first ∧ isK l x k := by
  unfold kiteR
  rw [Bool.and_eq_true]
  have key : ∀ k, anc l k x = first → clo l x k → chainR l first x = chn l x k := by
    intro k hk hcl
    rcases chainR_spec hc h0 h1 hx with ⟨e, h⟩ | ⟨i, e, hv, hi⟩
    · exact absurd hk (h k hcl.2.1)
    · rw [e]
      have : i = k := by
        rcases Nat.lt_trichotomy i k with g | g | g
        · have := hcl.2.1.lt hc g (Nat.le_refl k); omega
        · exact g
        · have := hv.lt hc g (Nat.le_refl i); omega
      rw [this]
  have sub : ∀ k, anc l k x = first → clo l x k → (((List.range (chainR l first x).length).all fun i => (List.range (chainR l first x).length).all fun j =>
    !(decide (i < j) && decide (j - i + 1 < (chainR l first x).length) && closesR l ((chainR l first x).getD i 0) ((chainR l first x).getD j 0))) = true ↔ isK l x k) := by
    intro k hk hcl
    rw [key k hk hcl]
    have hv := hcl.2.1
    simp only [List.all_eq_true, List.mem_range, chn_len, Bool.not_eq_true', Bool.and_eq_false_iff, decide_eq_false_iff_not]
    constructor
    · intro h
      refine ⟨hcl, fun j i hji hle => ?_⟩
      have hi1 := hji.1
      refine Classical.byContradiction fun hn => ?_
      have hp := h (k - (j + i)) (by omega) (k - j) (by omega)
      rw [chn_getD (by omega), chn_getD (by omega), show k - (k - (j + i)) = j + i by omega, show k - (k - j) = j by omega] at hp
      have hr1 := hv.rng hc (j := j + i) hle
      have hr2 := hv.rng hc (j := j) (by omega)
      have hlt := hv.lt hc (i := j) (j := j + i) (by omega) hle
      rcases hp with (hp | hp) | hp
      · omega
      · exact hn (by omega)
      · have := (closesR_iff hc hr1.1 (by omega) hr2.2).2 ⟨i, by rw [← anc_add], hji⟩
        rw [this] at hp; cases hp
    · rintro ⟨_, h⟩ i hi j hj
      by_cases g1 : i < j
      · by_cases g2 : j - i + 1 < k + 1
        · refine .inr ?_
          rw [chn_getD (by omega), chn_getD (by omega)]
          have hr1 := hv.rng hc (j := k - i) (by omega)
          have hr2 := hv.rng hc (j := k - j) (by omega)
          have hlt := hv.lt hc (i := k - j) (j := k - i) (by omega) (by omega)
          cases hcs : closesR l (anc l (k - i) x) (anc l (k - j) x) with
          | false => rfl
          | true =>
            obtain ⟨m, hm1, hm2⟩ := (closesR_iff hc hr1.1 (by omega) hr2.2).1 hcs
            rw [← anc_add] at hm1
            have hm3 : k - j + m = k - i := by
              have hvm : vld l x (k - j + m) := ⟨hv.1, fun q hq => by
                by_cases hqj : q ≤ k - j
                · exact hv.2 q (by omega)
                · have := hm2.2.1.2 (q - (k - j)) (by omega)
                  rwa [← anc_add, show k - j + (q - (k - j)) = q by omega] at this⟩
              rcases Nat.lt_trichotomy (k - j + m) (k - i) with g | g | g
              · have := hv.lt hc g (by omega); omega
              · exact g
              · have := hvm.lt hc g (Nat.le_refl _); omega
            have := h (k - j) m hm2 (by omega)
            omega
        · exact .inl (.inr g2)
      · exact .inl (.inl g1)
  constructor
  · rintro ⟨h1', h2⟩
    obtain ⟨k, hk, hcl⟩ := (closesR_iff hc h0 h1 hx).1 h1'
    exact ⟨k, hk, (sub k hk hcl).1 h2⟩
  · rintro ⟨k, hk, hik⟩
    exact ⟨(closesR_iff hc h0 h1 hx).2 ⟨k, hk, hik.1⟩, (sub k hk hik.1).2 hik⟩
structure Ki where
  dr : List Int
  fi : List Int
  mo : Int
def sumI (l : List Int) : Int := l.foldl (· + ·) 0
def covS (l : List Dr) (i : Int) : Int := sumI ((l.filter fun x => decide (x.c = i)).map Dr.s)
def ownAt (l : List Dr) (i : Int) : Int := max 0 ((dat l i).s - covS l i)
def kiOf (l : List Dr) (c : List Int) : Ki := ⟨c, c.map fun i => (dat l i).d, sumI (c.dropLast.map (ownAt l))⟩
def bef : List Int → List Int → Bool
  | a :: x, b :: y => if a ≠ b then decide (a < b) else bef x y
  | _, _ => false
theorem bef_irr : ∀ x, bef x x = false
  | [] => rfl
  | a :: x => by rw [bef, if_neg (by simp)]; exact bef_irr x
theorem bef_trans : ∀ x y z, bef x y = true → bef y z = true → bef x z = true
  | [], _, _, h, _ => absurd h (by simp [bef])
  | _ :: _, [], _, h, _ => absurd h (by simp [bef])
  | _ :: _, _ :: _, [], _, h => absurd h (by simp [bef])
  | a :: x, b :: y, c :: z, h1, h2 => by
    rw [bef] at h1 h2 ⊢
    by_cases e1 : a = b
    · subst e1
      rw [if_neg (by simp)] at h1
      by_cases e2 : a = c
      · subst e2
        rw [if_neg (by simp)] at h2 ⊢
        exact bef_trans x y z h1 h2
      · rw [if_pos e2] at h2 ⊢; exact h2
    · rw [if_pos e1] at h1
      have h1 := of_decide_eq_true h1
      by_cases e2 : b = c
      · subst e2
        rw [if_pos (by omega)]; exact decide_eq_true h1
      · rw [if_pos e2] at h2
        have h2 := of_decide_eq_true h2
        rw [if_pos (by omega)]; exact decide_eq_true (by omega)
theorem bef_total : ∀ x y : List Int, x.length = y.length → x ≠ y → bef x y = false → bef y x = true
  | [], [], _, h, _ => absurd rfl h
  | [], _ :: _, h, _, _ => by simp at h
  | _ :: _, [], h, _, _ => by simp at h
  | a :: x, b :: y, hl, hn, h => by
    rw [bef] at h ⊢
    by_cases e : a = b
    · subst e
      rw [if_neg (by simp)] at h ⊢
      exact bef_total x y (by simpa using hl) (fun e2 => hn (by rw [e2])) h
    · rw [if_pos e] at h
      have := of_decide_eq_false h
      rw [if_pos (Ne.symm e)]; exact decide_eq_true (by omega)
def ltK (x y : Ki) : Bool := decide (x.dr.length < y.dr.length) || (decide (x.dr.length = y.dr.length) && bef x.dr y.dr)
theorem ltK_irr (x : Ki) : ltK x x = false := by simp [ltK, bef_irr]
theorem ltK_trans {x y z : Ki} (h1 : ltK x y = true) (h2 : ltK y z = true) : ltK x z = true := by
  unfold ltK at *
  simp only [Bool.or_eq_true, Bool.and_eq_true, decide_eq_true_eq] at *
  rcases h1 with h1 | ⟨h1, h3⟩ <;> rcases h2 with h2 | ⟨h2, h4⟩
  · exact .inl (by omega)
  · exact .inl (by omega)
  · exact .inl (by omega)
  · exact .inr ⟨by omega, bef_trans _ _ _ h3 h4⟩
theorem ltK_total {x y : Ki} (h : x.dr ≠ y.dr) (hn : ltK x y = false) : ltK y x = true := by
  unfold ltK at *
  simp only [Bool.or_eq_false_iff, decide_eq_false_iff_not, Bool.and_eq_false_iff, Bool.or_eq_true, Bool.and_eq_true, decide_eq_true_eq] at *
  by_cases e : x.dr.length = y.dr.length
  · rcases hn.2 with g | g
    · exact absurd e g
    · exact .inr ⟨e.symm, bef_total _ _ e h g⟩
  · exact .inl (by omega)
theorem ltK_swo {x y z : Ki} (h1 : ltK x y = false) (h2 : ltK y z = false) : ltK x z = false := by
  by_cases e1 : x.dr = y.dr
  · unfold ltK at *; rw [e1]; exact h2
  by_cases e2 : y.dr = z.dr
  · unfold ltK at *; rw [← e2]; exact h1
  have := ltK_trans (ltK_total e2 h2) (ltK_total e1 h1)
  cases h : ltK x z with
  | false => rfl
  | true => have := ltK_trans this h; rw [ltK_irr] at this; cases this
theorem sorted_ext : ∀ {l1 l2 : List Ki}, l1.Pairwise (fun x y => ltK x y = true) → l2.Pairwise (fun x y => ltK x y = true) → (∀ x, x ∈ l1 ↔ x ∈ l2) → l1 = l2
  | [], [], _, _, _ => rfl
  | [], b :: _, _, _, h => absurd ((h b).2 List.mem_cons_self) (by simp)
  | a :: _, [], _, _, h => absurd ((h a).1 List.mem_cons_self) (by simp)
  | a :: l1, b :: l2, h1, h2, h => by
    obtain ⟨p1, q1⟩ := List.pairwise_cons.1 h1
    obtain ⟨p2, q2⟩ := List.pairwise_cons.1 h2
    have hab : a = b := by
      rcases List.mem_cons.1 ((h a).1 List.mem_cons_self) with e | e
      · exact e
      · rcases List.mem_cons.1 ((h b).2 List.mem_cons_self) with e2 | e2
        · exact e2.symm
        · have := ltK_trans (p2 a e) (p1 b e2)
          rw [ltK_irr] at this; cases this
    subst hab
    rw [sorted_ext q1 q2 fun x => ?_]
    constructor
    · intro hx
      rcases List.mem_cons.1 ((h x).1 (List.mem_cons_of_mem _ hx)) with e | e
      · subst e; have := p1 x hx; rw [ltK_irr] at this; cases this
      · exact e
    · intro hx
      rcases List.mem_cons.1 ((h x).2 (List.mem_cons_of_mem _ hx)) with e | e
      · subst e; have := p2 x hx; rw [ltK_irr] at this; cases this
      · exact e
def insKi : List Ki → Ki → List Ki
  | [], k => [k]
  | x :: l, k => if bef k.dr x.dr = true then k :: x :: l else x :: insKi l k
theorem insKi_mem {k x : Ki} : ∀ {l : List Ki}, x ∈ insKi l k ↔ x = k ∨ x ∈ l
  | [] => by simp [insKi]
  | y :: l => by
    rw [insKi]
    split
    · simp
    · rw [List.mem_cons, insKi_mem, List.mem_cons]
      constructor
      · rintro (h | h | h)
        · exact .inr (.inl h)
        · exact .inl h
        · exact .inr (.inr h)
      · rintro (h | h | h)
        · exact .inr (.inl h)
        · exact .inl h
        · exact .inr (.inr h)
theorem insKi_sorted {k : Ki} {n : Nat} (hk : k.dr.length = n) : ∀ {l : List Ki}, l.Pairwise (fun x y => ltK x y = true) → (∀ x ∈ l, x.dr.length = n ∧ x.dr ≠ k.dr) → (insKi l k).Pairwise (fun x y => ltK x y = true)
  | [], _, _ => List.pairwise_singleton _ _
  | y :: l, h, hn => by
    obtain ⟨p, q⟩ := List.pairwise_cons.1 h
    obtain ⟨y1, y2⟩ := hn y List.mem_cons_self
    rw [insKi]
    split
    · rename_i hb
      have hky : ltK k y = true := by unfold ltK; simp [hk, y1, hb]
      refine List.pairwise_cons.2 ⟨fun x hx => ?_, h⟩
      rcases List.mem_cons.1 hx with e | e
      · rw [e]; exact hky
      · exact ltK_trans hky (p x e)
    · rename_i hb
      have hyk : ltK y k = true := by
        refine ltK_total (x := k) (y := y) (Ne.symm y2) ?_
        unfold ltK; simp [hk, y1, hb]
      refine List.pairwise_cons.2 ⟨fun x hx => ?_, insKi_sorted hk q fun x hx => hn x (List.mem_cons_of_mem _ hx)⟩
      rcases insKi_mem.1 hx with e | e
      · rw [e]; exact hyk
      · exact p x e
def foundR (l : List Dr) (n : Nat) (first : Int) (acc : List Ki) (last : Int) : List Ki :=
  if (chainR l first last).length = n ∧ kiteR l first last = true then insKi acc (kiOf l (chainR l first last)) else acc
def rangeI (lo : Int) (m : Nat) : List Int := (List.range m).map fun (i : Nat) => lo + (i : Int)
theorem rangeI_mem {lo x : Int} {m : Nat} : x ∈ rangeI lo m ↔ lo ≤ x ∧ x < lo + m := by
  unfold rangeI
  simp only [List.mem_map, List.mem_range]
  constructor
  · rintro ⟨i, hi, rfl⟩; omega
  · rintro ⟨h1, h2⟩; exact ⟨(x - lo).toNat, by omega, by omega⟩
def firstR (l : List Dr) (n : Nat) (first : Int) : List Ki := (rangeI (first + 1) ((l.length : Int) - (first + 1)).toNat).foldl (foundR l n first) []
def sizeR (l : List Dr) (n : Nat) : List Ki := (rangeI 0 l.length).flatMap (firstR l n)
def kitesR (l : List Dr) : List Ki := (rangeI 2 (l.length - 1)).flatMap fun n => sizeR l n.toNat
def isKi (l : List Dr) (x : Int) (k : Nat) (K : Ki) : Prop := 0 ≤ x ∧ isK l x k ∧ K = kiOf l (chn l x k)
theorem isKi.len {l : List Dr} {x : Int} {k : Nat} {K : Ki} (h : isKi l x k K) : K.dr.length = k + 1 ∧ hdI K.dr = anc l k x ∧ K.dr.getD k 0 = x := by
  obtain ⟨_, _, rfl⟩ := h
  refine ⟨chn_len l x k, hdI_chn l x k, ?_⟩
  show (chn l x k).getD k 0 = x
  rw [chn_getD (Nat.le_refl k), Nat.sub_self]; rfl
theorem foundR_spec {l : List Dr} (hc : CovOk l) {n : Nat} {first : Int} (h0 : 0 ≤ first) : ∀ m : Nat, first + 1 + m ≤ l.length →
    ((rangeI (first + 1) m).foldl (foundR l n first) []).Pairwise (fun x y => ltK x y = true) ∧ ∀ K, K ∈ (rangeI (first + 1) m).foldl (foundR l n first) [] ↔ ∃ x k, x ≤ first + m ∧ isKi l x k K ∧ k + 1 = n ∧ anc l k x = first
  | 0, _ => by
    refine ⟨List.Pairwise.nil, fun K => ⟨fun h => absurd h (by simp [rangeI]), ?_⟩⟩
    rintro ⟨x, k, h1, ⟨_, h2, _⟩, h3, h4⟩
    have h5 := h2.1.2.1.lt hc (i := 0) (j := k) (by have := h2.1.1; omega) (Nat.le_refl k)
    have e0 : anc l 0 x = x := rfl
    rw [e0] at h5
    simp at h1
    omega
  | m + 1, hm => by
    obtain ⟨ih1, ih2⟩ := foundR_spec hc h0 (n := n) m (by push_cast at hm; omega)
    have e : rangeI (first + 1) (m + 1) = rangeI (first + 1) m ++ [first + 1 + m] := by unfold rangeI; rw [List.range_succ, List.map_append]; rfl
    rw [e, List.foldl_append]
    generalize (rangeI (first + 1) m).foldl (foundR l n first) [] = acc at ih1 ih2 ⊢
    simp only [List.foldl_cons, List.foldl_nil]
    obtain ⟨x, hx⟩ : ∃ x, x = first + 1 + (m : Int) := ⟨_, rfl⟩
    rw [← hx]
    have hxl : x < l.length := by push_cast at hm; omega
    unfold foundR
    by_cases hk : (chainR l first x).length = n ∧ kiteR l first x = true
    · rw [if_pos hk]
      obtain ⟨k, hk1, hk2⟩ := (kiteR_iff hc h0 (by omega) hxl).1 hk.2
      have hch : chainR l first x = chn l x k := by
        rcases chainR_spec hc h0 (by omega) hxl with ⟨e, h⟩ | ⟨i, e, hv, hi⟩
        · exact absurd hk1 (h k hk2.1.2.1)
        · rw [e]
          have : i = k := by
            rcases Nat.lt_trichotomy i k with g | g | g
            · have := hk2.1.2.1.lt hc g (Nat.le_refl k); omega
            · exact g
            · have := hv.lt hc g (Nat.le_refl i); omega
          rw [this]
      rw [hch] at hk ⊢
      have hkn : k + 1 = n := by rw [← hk.1, chn_len]
      have hnew : isKi l x k (kiOf l (chn l x k)) := ⟨by omega, hk2, rfl⟩
      refine ⟨insKi_sorted (n := n) (by rw [← hkn]; exact hnew.len.1) ih1 fun y hy => ?_, fun K => ?_⟩
      · obtain ⟨x', k', h1, h2, h3, h4⟩ := (ih2 y).1 hy
        refine ⟨by rw [h2.len.1]; exact h3, fun e => ?_⟩
        have e1 := h2.len.2.2
        rw [e, show k' = k by omega, hnew.len.2.2] at e1
        omega
      · rw [insKi_mem, ih2]
        constructor
        · rintro (h | ⟨x', k', h1, h2, h3, h4⟩)
          · rw [h]; exact ⟨x, k, by push_cast; omega, hnew, hkn, hk1⟩
          · exact ⟨x', k', by push_cast; omega, h2, h3, h4⟩
        · rintro ⟨x', k', h1, h2, h3, h4⟩
          by_cases ex : x' = x
          · subst ex
            have : k' = k := h2.2.1.uniq hk2
            subst this
            exact .inl h2.2.2
          · exact .inr ⟨x', k', by push_cast at h1; omega, h2, h3, h4⟩
    · rw [if_neg hk]
      refine ⟨ih1, fun K => ?_⟩
      rw [ih2]
      constructor
      · rintro ⟨x', k', h1, h2, h3, h4⟩; exact ⟨x', k', by push_cast; omega, h2, h3, h4⟩
      · rintro ⟨x', k', h1, h2, h3, h4⟩
        refine ⟨x', k', ?_, h2, h3, h4⟩
        by_cases ex : x' = x
        · subst ex
          refine absurd ?_ hk
          have hkr := (kiteR_iff hc h0 (by omega) hxl).2 ⟨k', h4, h2.2.1⟩
          refine ⟨?_, hkr⟩
          rcases chainR_spec hc h0 (by omega) hxl with ⟨e, h⟩ | ⟨i, e, hv, hi⟩
          · exact absurd h4 (h k' h2.2.1.1.2.1)
          · rw [e, chn_len]
            have : i = k' := by
              rcases Nat.lt_trichotomy i k' with g | g | g
              · have := h2.2.1.1.2.1.lt hc g (Nat.le_refl k'); omega
              · exact g
              · have := hv.lt hc g (Nat.le_refl i); omega
            omega
        · push_cast at h1; omega
theorem firstR_spec {l : List Dr} (hc : CovOk l) {n : Nat} {first : Int} (h0 : 0 ≤ first) (h1 : first < l.length) :
    (firstR l n first).Pairwise (fun x y => ltK x y = true) ∧ ∀ K, K ∈ firstR l n first ↔ ∃ x k, isKi l x k K ∧ k + 1 = n ∧ anc l k x = first := by
  obtain ⟨a, b⟩ := foundR_spec hc h0 (n := n) ((l.length : Int) - (first + 1)).toNat (by omega)
  refine ⟨a, fun K => (b K).trans ⟨fun ⟨x, k, _, h⟩ => ⟨x, k, h⟩, fun ⟨x, k, h⟩ => ⟨x, k, ?_, h⟩⟩⟩
  have := h.1.2.1.1.2.1.1
  omega
theorem pw_flat {α : Type} {R : Ki → Ki → Prop} {f : α → List Ki} : ∀ {l : List α}, (∀ a ∈ l, (f a).Pairwise R) → l.Pairwise (fun a b => ∀ x ∈ f a, ∀ y ∈ f b, R x y) → (l.flatMap f).Pairwise R
  | [], _, _ => List.Pairwise.nil
  | a :: l, h1, h2 => by
    obtain ⟨p, q⟩ := List.pairwise_cons.1 h2
    rw [List.flatMap_cons, List.pairwise_append]
    refine ⟨h1 a List.mem_cons_self, pw_flat (fun b hb => h1 b (List.mem_cons_of_mem _ hb)) q, fun x hx y hy => ?_⟩
    obtain ⟨b, hb, hy⟩ := List.mem_flatMap.1 hy
    exact p b hb x hx y hy
theorem rangeI_sorted (lo : Int) (m : Nat) : (rangeI lo m).Pairwise (· < ·) := by
  unfold rangeI
  rw [List.pairwise_map]
  exact List.pairwise_lt_range.imp fun h => by omega
theorem pw_mem {α : Type} {R : α → α → Prop} {l : List α} (h : l.Pairwise R) : l.Pairwise fun a b => a ∈ l ∧ b ∈ l ∧ R a b := by
  refine List.Pairwise.imp_of_mem ?_ h
  intro a b ha hb hr
  exact ⟨ha, hb, hr⟩
theorem sizeR_spec {l : List Dr} (hc : CovOk l) {n : Nat} : (sizeR l n).Pairwise (fun x y => ltK x y = true) ∧ ∀ K, K ∈ sizeR l n ↔ ∃ x k, isKi l x k K ∧ k + 1 = n := by
  refine ⟨pw_flat (fun a ha => ?_) ((pw_mem (rangeI_sorted 0 l.length)).imp ?_), fun K => ?_⟩
  · have := rangeI_mem.1 ha
    exact (firstR_spec hc this.1 (by omega)).1
  · rintro a b ⟨ha, hb, hab⟩ x hx y hy
    have ha := rangeI_mem.1 ha
    have hb := rangeI_mem.1 hb
    obtain ⟨x1, k1, i1, i2, i3⟩ := ((firstR_spec hc ha.1 (by omega)).2 x).1 hx
    obtain ⟨x2, k2, j1, j2, j3⟩ := ((firstR_spec hc hb.1 (by omega)).2 y).1 hy
    have l1 := i1.len
    have l2 := j1.len
    have : bef x.dr y.dr = true := by
      cases hx : x.dr with
      | nil => rw [hx] at l1; simp at l1
      | cons p xs =>
        cases hy : y.dr with
        | nil => rw [hy] at l2; simp at l2
        | cons q ys =>
          have h1 := l1.2.1
          have h2 := l2.2.1
          rw [hx] at h1
          rw [hy] at h2
          have h1 : p = anc l k1 x1 := h1
          have h2 : q = anc l k2 x2 := h2
          rw [bef, if_pos (by omega)]
          exact decide_eq_true (by omega)
    unfold ltK
    rw [this, l1.1, l2.1]
    simp; omega
  · unfold sizeR
    rw [List.mem_flatMap]
    constructor
    · rintro ⟨f, hf, hK⟩
      have hf := rangeI_mem.1 hf
      obtain ⟨x, k, h1, h2, _⟩ := ((firstR_spec hc hf.1 (by omega)).2 K).1 hK
      exact ⟨x, k, h1, h2⟩
    · rintro ⟨x, k, h1, h2⟩
      have hr := h1.2.1.1.2.1.rng hc (Nat.le_refl k)
      exact ⟨anc l k x, rangeI_mem.2 ⟨hr.1, by omega⟩, ((firstR_spec hc hr.1 hr.2).2 K).2 ⟨x, k, h1, h2, rfl⟩⟩
theorem kitesR_spec {l : List Dr} (hc : CovOk l) : (kitesR l).Pairwise (fun x y => ltK x y = true) ∧ ∀ K, K ∈ kitesR l ↔ ∃ x k, isKi l x k K := by
  refine ⟨pw_flat (fun a ha => (sizeR_spec hc).1) ((pw_mem (rangeI_sorted 2 (l.length - 1))).imp ?_), fun K => ?_⟩
  · rintro a b ⟨ha, hb, hab⟩ x hx y hy
    have ha := rangeI_mem.1 ha
    obtain ⟨x1, k1, i1, i2⟩ := ((sizeR_spec hc).2 x).1 hx
    obtain ⟨x2, k2, j1, j2⟩ := ((sizeR_spec hc).2 y).1 hy
    unfold ltK
    rw [i1.len.1, j1.len.1]
    simp; omega
  · unfold kitesR
    rw [List.mem_flatMap]
    constructor
    · rintro ⟨n, _, hK⟩
      obtain ⟨x, k, h, _⟩ := ((sizeR_spec hc).2 K).1 hK
      exact ⟨x, k, h⟩
    · rintro ⟨x, k, h⟩
      have hv := h.2.1.1.2.1
      have h1 := h.2.1.1.1
      have h2 := hv.dec hc k (Nat.le_refl k)
      have h3 := hv.2 k (Nat.le_refl k)
      have h4 := hv.1
      exact ⟨(k : Int) + 1, rangeI_mem.2 ⟨by omega, by omega⟩, ((sizeR_spec hc).2 K).2 ⟨x, k, h, by omega⟩⟩
def rawG (l : List Dr) : List Ki := ((rangeI 0 l.length).filter (wholeG l)).map fun x => kiOf l (closG l x)
theorem rawG_mem {l : List Dr} (hc : CovOk l) (K : Ki) : K ∈ rawG l ↔ ∃ x k, isKi l x k K := by
  unfold rawG
  simp only [List.mem_map, List.mem_filter, rangeI_mem]
  constructor
  · rintro ⟨x, ⟨hx, hw⟩, rfl⟩
    obtain ⟨w1, w2⟩ := whole_iff hc hx.1 (by omega : x < l.length)
    obtain ⟨k, hk⟩ := w1.1 hw
    exact ⟨x, k, hx.1, hk, by rw [w2 k hk]⟩
  · rintro ⟨x, k, h0, hk, rfl⟩
    obtain ⟨w1, w2⟩ := whole_iff hc h0 hk.1.2.1.1
    exact ⟨x, ⟨⟨h0, by have := hk.1.2.1.1; omega⟩, w1.2 ⟨k, hk⟩⟩, by rw [w2 k hk]⟩
theorem isKi_inj {l : List Dr} {x y : Int} {k k' : Nat} {K L : Ki} (h : isKi l x k K) (h' : isKi l y k' L) (e : K.dr = L.dr) : x = y ∧ k = k' ∧ K = L := by
  have h1 := h.len
  have h2 := h'.len
  have hk : k = k' := by rw [e, h2.1] at h1; omega
  subst hk
  have hx : x = y := by rw [← h1.2.2, e, h2.2.2]
  subst hx
  exact ⟨rfl, rfl, by rw [h.2.2, h'.2.2]⟩
theorem kites_eq {l : List Dr} (hc : CovOk l) {out : List Ki} (hp : out.Perm (rawG l)) (hs : out.Pairwise fun x y => ltK y x = false) : out = kitesR l := by
  obtain ⟨r1, r2⟩ := kitesR_spec hc
  have hm : ∀ x, x ∈ out ↔ x ∈ kitesR l := fun x => by rw [hp.mem_iff, rawG_mem hc, r2]
  refine sorted_ext ?_ r1 hm
  have hnd : (rawG l).Pairwise fun x y => x.dr ≠ y.dr := by
    unfold rawG
    rw [List.pairwise_map]
    refine (pw_mem (List.Pairwise.filter (wholeG l) (rangeI_sorted 0 l.length))).imp ?_
    · rintro a b ⟨ha, hb, hab⟩ e
      obtain ⟨ha1, ha2⟩ := List.mem_filter.1 ha
      obtain ⟨hb1, hb2⟩ := List.mem_filter.1 hb
      have ha1 := rangeI_mem.1 ha1
      have hb1 := rangeI_mem.1 hb1
      obtain ⟨w1, w2⟩ := whole_iff hc ha1.1 (by omega : a < l.length)
      obtain ⟨v1, v2⟩ := whole_iff hc hb1.1 (by omega : b < l.length)
      obtain ⟨k, hk⟩ := w1.1 ha2
      obtain ⟨k', hk'⟩ := v1.1 hb2
      have := (isKi_inj (K := kiOf l (closG l a)) (L := kiOf l (closG l b)) ⟨ha1.1, hk, by rw [w2 k hk]⟩ ⟨hb1.1, hk', by rw [v2 k' hk']⟩ e).1
      omega
  have hnd2 : out.Pairwise fun x y => x.dr ≠ y.dr := hp.symm.pairwise hnd fun h => Ne.symm h
  exact (hnd2.and hs).imp fun ⟨h1, h2⟩ => ltK_total (Ne.symm h1) h2
end Go.Abs


set_option maxRecDepth 100000
namespace Go.Abs
def linkedG (l : List Dr) (c : List Int) : Bool :=
  ((List.range c.length).all fun i => decide (0 ≤ c.getD i 0 ∧ c.getD i 0 < l.length ∧ (0 < i → (dat l (c.getD i 0)).c = c.getD (i - 1) 0))) && decide (1 < c.length ∧ (dat l (c.getD (c.length - 1) 0)).a = (dat l (c.getD 0 0)).d)
theorem linked_chn {l : List Dr} (hc : CovOk l) {x : Int} {k : Nat} (hv : vld l x k) : linkedG l (chn l x k) = true ↔ clo l x k := by
  unfold linkedG
  rw [Bool.and_eq_true, chn_len, decide_eq_true_eq, chn_getD (by omega), chn_getD (by omega), show k - (k + 1 - 1) = 0 by omega]
  constructor
  · rintro ⟨_, h1, h2⟩
    exact ⟨by omega, hv, h2.symm⟩
  · rintro ⟨h1, _, h2⟩
    refine ⟨?_, by omega, h2.symm⟩
    rw [List.all_eq_true]
    intro i hi
    have hi := List.mem_range.1 hi
    rw [decide_eq_true_eq, chn_getD (by omega)]
    have hr := hv.rng hc (j := k - i) (by omega)
    refine ⟨hr.1, hr.2, fun h0 => ?_⟩
    rw [chn_getD (by omega), show k - (i - 1) = (k - i) + 1 by omega]
    rfl
theorem chn_slice {l : List Dr} {x : Int} {k a b : Nat} (hab : a ≤ b) (hb : b ≤ k) : ((chn l x k).drop a).take (b + 1 - a) = chn l (anc l (k - b) x) (b - a) := by
  apply List.ext_getElem
  · rw [List.length_take, List.length_drop, chn_len, chn_len]; omega
  · intro i h1 h2
    rw [chn_len] at h2
    rw [List.getElem_take, List.getElem_drop, chn_at, chn_at, ← anc_add]
    congr 1; omega
theorem vld.sub {l : List Dr} (hc : CovOk l) {x : Int} {k a b : Nat} (hv : vld l x k) (hab : a ≤ b) (hb : b ≤ k) : vld l (anc l (k - b) x) (b - a) := hv.up hc (by omega)
theorem isK.part {l : List Dr} (hc : CovOk l) {x : Int} {k a b : Nat} (h : isK l x k) (hab : a < b) (hb : b ≤ k) (hs : b - a < k) : linkedG l (((chn l x k).drop a).take (b + 1 - a)) = false := by
  rw [chn_slice (by omega) hb]
  cases hl : linkedG l (chn l (anc l (k - b) x) (b - a)) with
  | false => rfl
  | true =>
    have := h.2 (k - b) (b - a) ((linked_chn hc (h.1.2.1.sub hc (by omega) hb)).1 hl) (by omega)
    omega
def eqKi (a b : Ki) : Bool := decide (a.dr = b.dr) && (decide (a.fi = b.fi) && decide (a.mo = b.mo))
def provesG (l : List Ki) (k : Ki) : Bool := l.any fun x => eqKi x k
theorem foldl_add (l : List Int) : ∀ a : Int, l.foldl (· + ·) a = a + sumI l := by
  unfold sumI
  induction l with
  | nil => intro a; simp
  | cons x l ih => intro a; simp only [List.foldl_cons]; rw [ih, ih (0 + x)]; omega
theorem sumI_snoc (l : List Int) (x : Int) : sumI (l ++ [x]) = sumI l + x := by unfold sumI; rw [List.foldl_append]; rfl
theorem sumI_cons (l : List Int) (x : Int) : sumI (x :: l) = x + sumI l := by
  show (x :: l).foldl (· + ·) 0 = _
  rw [List.foldl_cons, foldl_add]; omega
theorem sumI_bound {B : Int} : ∀ {l : List Int}, (∀ x ∈ l, 0 ≤ x ∧ x ≤ B) → 0 ≤ sumI l ∧ sumI l ≤ l.length * B
  | [], _ => by simp [sumI]
  | x :: l, h => by
    have h1 := h x List.mem_cons_self
    have h2 := sumI_bound fun y hy => h y (List.mem_cons_of_mem _ hy)
    rw [sumI_cons, List.length_cons]
    push_cast
    rw [Int.add_mul]
    omega
def SumOk (l : List Dr) : Prop := ∀ x ∈ l, 1 ≤ x.s ∧ x.s ≤ 1099511627776
theorem covS_bound {l : List Dr} (h : SumOk l) (i : Int) : 0 ≤ covS l i ∧ covS l i ≤ l.length * 1099511627776 := by
  unfold covS
  have h1 := sumI_bound (B := 1099511627776) (l := (l.filter fun x => decide (x.c = i)).map Dr.s) fun y hy => by
    obtain ⟨x, hx, rfl⟩ := List.mem_map.1 hy
    have := h x (List.mem_filter.1 hx).1
    omega
  refine ⟨h1.1, Int.le_trans h1.2 ?_⟩
  rw [List.length_map]
  have := List.length_filter_le (fun x : Dr => decide (x.c = i)) l
  exact Int.mul_le_mul_of_nonneg_right (by omega) (by omega)
theorem own_facts {l : List Dr} (h : SumOk l) {i : Int} (h0 : 0 ≤ i) (hi : i < l.length) : 0 ≤ ownAt l i ∧ ownAt l i ≤ (dat l i).s ∧ (dat l i).s ≤ ownAt l i + covS l i ∧ (ownAt l i > 0 → ownAt l i + covS l i = (dat l i).s) := by
  have hb := (covS_bound h i).1
  have hs : dat l i ∈ l := by
    unfold dat
    rw [List.getD_eq_getElem?_getD, List.getElem?_eq_getElem (by omega), Option.getD_some]
    exact List.getElem_mem _
  have := h _ hs
  unfold ownAt
  omega
end Go.Abs


namespace Go.Abs
def endQX (rs : List RX) (S : V → Prop) : AE → St → Prop
  | .normal => fun σ => retQ rs S σ
  | .ret => fun σ => retQ rs S σ
  | .exit _ => fun _ => False
theorem Spec.of_awpX {P : Program} {f : FuncId} {fn : Func} {c : Code} {ac : AC} {rs : List RX} {args : List V} {S : V → Prop} (hf : P.funcs[f]? = some fn) (hb : fn.body = some c) (hname : (fn.name == "runtime.NumGoroutine") = false)
    (hc : compile P fn.ntmps c = some ac) (hr : cRes P fn.results.toList = some rs) (hlen : args.length ≤ fn.ntmps) (h : Wk (awp P ac (fun e => Wk (endQX rs S e))) (St.init args)) : Spec P f args S := by
  refine ⟨⟨fn, hf, by simp [hb], hname⟩, fun w Z vs hG hz ha => ?_⟩
  refine calls_of_wp hf hb ?_
  have hvl : vs.size = args.length := by simpa using ha.1
  have hinit : Inv (base w) Z (fun _ => none) (St.init args) (vs ++ Array.replicate (fn.ntmps - vs.size) undef) w := by
    refine ⟨Kept.refl w, hG, fun τ b h => absurd rfl h, fun τ _ b h => absurd rfl h, fun τ ob h => by simp [St.init] at h, fun s => ?_⟩
    by_cases hs : s < args.length
    · have e1 : (St.init args).t s = args[s] := by simp [St.init, hs]
      have e2 : (vs ++ Array.replicate (fn.ntmps - vs.size) undef).getD s undef = vs[s]'(by omega) := by
        have h1 : s < vs.size := by omega
        rw [Array.getD_eq_getD_getElem?, Array.getElem?_append_left h1, Array.getElem?_eq_getElem h1]
        rfl
      rw [e1, e2]
      obtain ⟨hp, hv⟩ := ha.2 s args[s] (vs[s]'(by omega)) (List.getElem?_eq_getElem hs) (by simp)
      exact (hv.pure_any hp).mono (fun _ _ => rfl) (fun b hb => ⟨.inl ⟨hb, hz b hb⟩, hz b hb, fun τ h => absurd rfl h⟩) (τs := fun _ => True) (TabLike.of_eq (σ := St.init args) (σ' := St.init args) (κ := fun _ => none) (κ' := fun _ => none) (fun _ _ => ⟨rfl, rfl⟩) (Kept.refl w)) (fun _ _ => trivial)
    · have e1 : (St.init args).t s = .any := by simp [St.init, hs]
      rw [e1]; trivial
  refine wp_mono (awp_sound (w0 := base w) (Z0 := Z) (F := ⟨fn.ntmps, fun _ => false, #[]⟩) (D := []) c ac hc (avoids_none ac) (fun e => Wk (endQX rs S e)) _ w (Nx.wk ⟨rfl, ⟨by simp; omega, by simp⟩, _, _, hinit, h⟩)) fun e a' w' h' => ?_
  have fin : Nx (base w) Z [] ⟨fn.ntmps, fun _ => false, #[]⟩ (Wk fun σ => retQ rs S σ) a' w' → a'.defers = [] ∧ ∃ v, (results fn a'.tmps).run P w' = .ok v w' ∧ ∃ v_1 r, Ending.returned v = .returned v_1 ∧ S r ∧ (∀ τ, r.noRef τ = true) ∧ RRep (base w) Z r v_1 w' := by
    intro hwk
    obtain ⟨hD, hn, κ, σ, hi, hq⟩ := Nx.wk hwk
    refine ⟨hD, ?_⟩
    obtain ⟨xs, us, ⟨hnd, hS⟩, hl, hrep, hrun⟩ := res_rep hi fn.results.toList rs hr hq
    have hone := one_rep hl hrep
    refine ⟨_, ?_, _, _, rfl, hS, V.clean _, ret_rep hi hone hnd⟩
    have hres : results fn a'.tmps = (do let vs ← fn.results.mapM (resVal a'.tmps); pure (if h : vs.size = 1 then vs[0] else .tuple vs)) := rfl
    rw [hres, Array.mapM_eq_mapM_toList]
    simp only [Sem.run_bind, Sem.run_map, hrun]
    simp
  cases e with
  | normal => exact fin h'
  | ret => exact fin h'
  | exit i => obtain ⟨_, _, _, _, _, _, _, h⟩ := h'; exact h.elim
  | goto l => exact h'.elim
  | panic ch => exact h'.elim
  | outgrown => exact h'.elim
theorem Spec.of_cFuncX {P : Program} {f : FuncId} {n : Nat} {ac : AC} {rs : List RX} {args : List V} {S : V → Prop} (hc : cFunc P f = some ⟨n, ac, rs⟩) (hlen : args.length ≤ n) (h : Wk (awp P ac (fun e => Wk (endQX rs S e))) (St.init args)) : Spec P f args S := by
  unfold cFunc at hc
  simp only [Option.bind_eq_bind, Option.bind_eq_some_iff] at hc
  obtain ⟨fn, hf, c, hb, ac', hcc, rs', hr, hc⟩ := hc
  split at hc
  · simp at hc
  · rename_i hn
    simp only [Option.pure_def, Option.some.injEq, AF.mk.injEq] at hc
    obtain ⟨rfl, rfl, rfl⟩ := hc
    exact Spec.of_awpX hf hb (by simpa using hn) hcc hr hlen h
def endKX (rs : List RX) (S : V → Prop) : AE → KK
  | .exit _, _, _ => False
  | _, ts, os => endL (resL ts os rs) os S
theorem endKX_ret (rs : List RX) (S : V → Prop) (ts : TS) (os : OS) : endKX rs S .ret ts os = endL (resL ts os rs) os S := id rfl
theorem endKX_normal (rs : List RX) (S : V → Prop) (ts : TS) (os : OS) : endKX rs S .normal ts os = endL (resL ts os rs) os S := id rfl
theorem endX_on {rs : List RX} {S : V → Prop} {e : AE} {ts : TS} {os : OS} (h : endKX rs S e ts os) : endQX rs S e (mkS ts os) := by
  have key : endL (resL ts os rs) os S → retQ rs S (mkS ts os) := by
    intro h
    cases hr : resL ts os rs with
    | none => rw [hr] at h; exact h.elim
    | some pv =>
      obtain ⟨p, vs⟩ := pv
      rw [hr] at h
      exact resL_on hr h.1 h.2
  cases e with
  | normal => exact key h
  | exit i => exact h.elim
  | ret => exact key h
theorem Spec.of_awlX {P : Program} {f : FuncId} {n : Nat} {c : AQ} {rs : List RX} {args : List V} {X : V} (hc : cFunc P f = some ⟨n, c.erase, rs⟩) (hok : c.ok = true) (hlen : args.length ≤ n) (h : ∀ S : V → Prop, S X → awl P c (endKX rs S) (initT 0 args) []) : Spec P f args (fun r => r = X) := by
  have h := h (fun r => r = X) rfl
  refine Spec.of_cFuncX (ac := c.erase) (rs := rs) (n := n) hc hlen (awq_sound c hok (Q := endQX rs _) ?_)
  have e : St.init args = mkS (initT 0 args) [] := init_mkS args []
  rw [e]
  exact awq_mono c (fun e => onS_elim fun _ _ h => endX_on h) (awl_on c h)
end Go.Abs


set_option maxRecDepth 100000
set_option maxHeartbeats 4000000
namespace Go.Abs
open Go.Proofs Go.RowKit
def encD (x : Dr) : List C := [.int .i64 x.d, .int .i64 x.a, .int .i64 x.s, .int .i64 x.y, .int .i64 x.u, .int .i64 x.c]
def drs (l : List Dr) : List (List C) := l.map encD
theorem drs_len (l : List Dr) : (drs l).length = l.length := by simp [drs]
theorem drs_at {l : List Dr} {i : Nat} (h : i < l.length) : (drs l).getD i [] = encD l[i] := by simp [drs, h]
theorem normRow_encD (x : Dr) : C.normRow (encD x) = encD x := rfl
theorem normRows_drs (l : List Dr) : C.normRows (drs l) = drs l := normRows_eq normRow_encD l
theorem drs_dat {l : List Dr} {i : Int} (h0 : 0 ≤ i) (h : i < l.length) : (drs l).getD i.toNat [] = [.int .i64 (dat l i).d, .int .i64 (dat l i).a, .int .i64 (dat l i).s, .int .i64 (dat l i).y, .int .i64 (dat l i).u, .int .i64 (dat l i).c] := by
  have h1 : i.toNat < l.length := by omega
  rw [drs_at h1]
  have : l[i.toNat] = dat l i := by unfold dat; rw [List.getD_eq_getElem?_getD, List.getElem?_eq_getElem h1]; rfl
  rw [this]; rfl
theorem drs_nat {l : List Dr} {i : Nat} (h : i < l.length) : (drs l).getD i [] = [.int .i64 (dat l i).d, .int .i64 (dat l i).a, .int .i64 (dat l i).s, .int .i64 (dat l i).y, .int .i64 (dat l i).u, .int .i64 (dat l i).c] := drs_dat (i := (i : Int)) (by omega) (by omega)
theorem dat_nat {l : List Dr} {i : Nat} (h : i < l.length) : dat l (i : Int) = l[i] := by unfold dat; rw [Int.toNat_natCast, List.getD_eq_getElem?_getD, List.getElem?_eq_getElem h]; rfl
def firmB (n : Int) : Bool := decide (0 ≤ n ∧ n < 200)
def dayB (n : Int) : Bool := decide (0 ≤ n ∧ n ≤ 100000)
theorem d26 (n : Int) : Spec Try.prog 26 [.int .i64 n] (fun r => r = .bool (firmB n)) := by
  refine Spec.of_awlS hf26 okf26 (by simp) fun S hS => ?_
  unfold firmB at hS
  by_cases h1 : n ≥ 0 <;> by_cases h2 : n < 200 <;> simp only [h1, h2, Qs, if_true, List.nodup_nil, Nat.reduceBEq, uu f26.eq_1, vv f26r1.eq_1, uu f26b2.eq_1, vv f26r3.eq_1, uu f26b4.eq_1] <;> (have h1' : 0 ≤ n ↔ n ≥ 0 := Iff.rfl) <;> simpa [h1, h2, h1'] using hS
theorem d27 (n : Int) : Spec Try.prog 27 [.int .i64 n] (fun r => r = .bool (firmB n)) := by
  refine Spec.of_awlS hf27 okf27 (by simp) fun S hS => ?_
  unfold firmB at hS
  by_cases h1 : n ≥ 0 <;> by_cases h2 : n < 200 <;> simp only [h1, h2, Qs, if_true, List.nodup_nil, Nat.reduceBEq, uu f27.eq_1, vv f27r1.eq_1, uu f27b2.eq_1, vv f27r3.eq_1, uu f27b4.eq_1] <;> (have h1' : 0 ≤ n ↔ n ≥ 0 := Iff.rfl) <;> simpa [h1, h2, h1'] using hS
theorem d28 (n : Int) : Spec Try.prog 28 [.int .i64 n] (fun r => r = .bool (dayB n)) := by
  refine Spec.of_awlS hf28 okf28 (by simp) fun S hS => ?_
  unfold dayB at hS
  by_cases h1 : n ≥ 0 <;> by_cases h2 : n ≤ 100000 <;> simp only [h1, h2, Qs, if_true, List.nodup_nil, Nat.reduceBEq, uu f28.eq_1, vv f28r1.eq_1, uu f28b2.eq_1, vv f28r3.eq_1, uu f28b4.eq_1] <;> (have h1' : 0 ≤ n ↔ n ≥ 0 := Iff.rfl) <;> simpa [h1, h2, h1'] using hS
def badA (x : Dr) : Prop := firmB x.d = false ∨ firmB x.a = false ∨ x.d = x.a ∨ x.s < 1 ∨ x.s > 1099511627776
def badY (x : Dr) : Prop := x.y < 0 ∨ x.u > 100000 ∨ x.y ≥ x.u
def badC (l : List Dr) (i : Int) (x : Dr) : Prop := x.c ≠ -1 ∧ (x.c < 0 ∨ x.c ≥ i ∨ (dat l x.c).a ≠ x.d ∨ (dat l x.c).u < x.y)
instance (x : Dr) : Decidable (badA x) := by unfold badA; infer_instance
instance (x : Dr) : Decidable (badY x) := by unfold badY; infer_instance
instance (l : List Dr) (i : Int) (x : Dr) : Decidable (badC l i x) := by unfold badC; infer_instance
def chk1 (l : List Dr) (i : Int) (x : Dr) : Int := if badA x then 1 else if badY x then 13 else if badC l i x then 2 else 0
def chkL (l : List Dr) : Nat → List Dr → Int
  | _, [] => 0
  | i, x :: r => if chk1 l i x ≠ 0 then chk1 l i x else chkL l (i + 1) r
def chkG (l : List Dr) : Int := if (l.length : Int) > 100 then 6 else chkL l 0 l
theorem chkL_drop {l : List Dr} {i : Nat} (h : i < l.length) : chkL l i (l.drop i) = if chk1 l i (dat l i) ≠ 0 then chk1 l i (dat l i) else chkL l (i + 1) (l.drop (i + 1)) := by
  rw [List.drop_eq_getElem_cons h, chkL, dat_nat h]
theorem chk_A {l : List Dr} {i : Nat} {X : Int} (h : chkL l i (l.drop i) = X) (hl : i < l.length) (hb : badA (dat l i)) : X = 1 := by
  rw [← h, chkL_drop hl]; unfold chk1; rw [if_pos hb]; rfl
theorem chk_Y {l : List Dr} {i : Nat} {X : Int} (h : chkL l i (l.drop i) = X) (hl : i < l.length) (ha : ¬ badA (dat l i)) (hb : badY (dat l i)) : X = 13 := by
  rw [← h, chkL_drop hl]; unfold chk1; rw [if_neg ha, if_pos hb]; rfl
theorem chk_C {l : List Dr} {i : Nat} {X : Int} (h : chkL l i (l.drop i) = X) (hl : i < l.length) (ha : ¬ badA (dat l i)) (hy : ¬ badY (dat l i)) (hb : badC l i (dat l i)) : X = 2 := by
  rw [← h, chkL_drop hl]; unfold chk1; rw [if_neg ha, if_neg hy, if_pos hb]; rfl
theorem chk_N {l : List Dr} {i : Nat} {X : Int} (h : chkL l i (l.drop i) = X) (hl : i < l.length) (ha : ¬ badA (dat l i)) (hy : ¬ badY (dat l i)) (hb : ¬ badC l i (dat l i)) : chkL l (i + 1) (l.drop (i + 1)) = X := by
  rw [← h, chkL_drop hl]; unfold chk1; rw [if_neg ha, if_neg hy, if_neg hb, if_neg (by simp)]
theorem d11 (l : List Dr) : Spec Try.prog 11 [lst 6 (drs l)] (fun r => r = .int .i64 (chkG l)) := by
  refine Spec.of_awlS hf11 okf11 (by simp) fun S hS => ?_
  by_cases b1 : (l.length : Int) > 100
  · unfold chkG at hS
    rw [if_pos b1] at hS
    simp only [b1, drs_len, normRows_drs, Qs, if_true, List.nodup_nil, Nat.reduceBEq, uu f11.eq_1, vv f11r37.eq_1, uu f11b38.eq_1, uu f11b39.eq_1, vv f11r40.eq_1, uu f11b41.eq_1, uu f11b42.eq_1, vv f11r43.eq_1, uu f11b44.eq_1]
    exact hS
  unfold chkG at hS
  rw [if_neg b1] at hS
  simp only [b1, drs_len, normRows_drs, Qs, if_true, Nat.reduceBEq, uu f11.eq_1, uu f11b33.eq_1, vv f11r34.eq_1, uu f11b35.eq_1, uu f11b36.eq_1, uu f11b39.eq_1, vv f11r40.eq_1, uu f11b41.eq_1, uu f11b42.eq_1, vv f11r43.eq_1, uu f11b44.eq_1]
  rw [uu f11l32.eq_1]
  refine awl_loop (fun i : Nat => [(0, lst 6 (drs l)), (3, .int .i64 i)]) (fun _ => []) (fun i => i ≤ l.length ∧ chkL l i (l.drop i) = chkL l 0 l) (fun i => l.length - i) 0 rfl rfl ⟨Nat.zero_le _, rfl⟩ ?_
  rintro i ⟨hi, hd⟩
  by_cases hlt : i < l.length
  · have c1 : (i : Int) < l.length := by omega
    have c4 : IntKind.i64.wrap ((i : Int) + 1) = (i : Int) + 1 := wrap_in (by omega) (by omega)
    obtain ⟨x, hx⟩ : ∃ x, dat l i = x := ⟨_, rfl⟩
    have hat := drs_nat hlt
    rw [hx] at hat
    have g1 := d26 x.d
    have g2 := d26 x.a
    have kA := chk_A hd hlt
    have kY := chk_Y hd hlt
    have kC := chk_C hd hlt
    have kN := chk_N hd hlt
    rw [hx] at kA kY kC kN
    have hcat : True := trivial
    simp only [c1, c4, drs_len, hat, normRows_drs, Qs, if_true, if_false, List.append_nil, Nat.reduceAdd, Nat.reduceLeDiff, Nat.reduceBEq, vv f11r3.eq_1, vv f11r21.eq_1, uu f11b22.eq_1, uu f11b23.eq_1, vv f11r24.eq_1, uu f11b25.eq_1, uu f11b26.eq_1, uu f11b27.eq_1, uu f11b28.eq_1, vv f11r29.eq_1, uu f11b30.eq_1, uu f11b31.eq_1]
    refine call_s g1 ?_
    cases h1 : firmB x.d with
    | false =>
      simp only [c4, h1, hat, drs_len, normRows_drs, Qs, List.nodup_nil, Nat.reduceBEq, vv f11r18.eq_1, uu f11b19.eq_1, uu f11b20.eq_1]
      exact fin hS (by rw [kA (.inl h1)])
    | true =>
    simp only [c4, h1, hat, drs_len, normRows_drs, Qs, if_false, Nat.reduceAdd, Nat.reduceLeDiff, Nat.reduceBEq]
    refine call_s g2 ?_
    cases h2 : firmB x.a with
    | false =>
      simp only [c4, h2, hat, drs_len, normRows_drs, Qs, if_false, List.nodup_nil, Nat.reduceBEq, vv f11r18.eq_1, uu f11b19.eq_1, uu f11b20.eq_1]
      exact fin hS (by rw [kA (.inr (.inl h2))])
    | true =>
    by_cases h3 : x.d = x.a
    · have h3b : (x.d == x.a) = true := by simpa using h3
      simp only [c4, h2, hat, drs_len, normRows_drs, h3b, Qs, if_true, if_false, List.nodup_nil, Nat.reduceAdd, Nat.reduceLeDiff, Nat.reduceBEq, vv f11r18.eq_1, uu f11b19.eq_1, uu f11b20.eq_1]
      exact fin hS (by rw [kA (.inr (.inr (.inl h3)))])
    have h3b : (x.d == x.a) = false := by simpa using h3
    by_cases h4 : x.s < 1
    · simp only [c4, h2, hat, drs_len, normRows_drs, h3b, h4, Qs, if_true, if_false, List.nodup_nil, Nat.reduceAdd, Nat.reduceLeDiff, Nat.reduceBEq, vv f11r18.eq_1, uu f11b19.eq_1, uu f11b20.eq_1]
      exact fin hS (by rw [kA (.inr (.inr (.inr (.inl h4))))])
    by_cases h5 : x.s > 1099511627776
    · simp only [c4, h2, hat, drs_len, normRows_drs, h3b, h4, h5, Qs, if_true, if_false, List.nodup_nil, Nat.reduceAdd, Nat.reduceLeDiff, Nat.reduceBEq, vv f11r18.eq_1, uu f11b19.eq_1, uu f11b20.eq_1]
      exact fin hS (by rw [kA (.inr (.inr (.inr (.inr h5))))])
    have nA : ¬ badA x := by unfold badA; rw [h1, h2]; simp; omega
    by_cases h6 : x.y < 0
    · simp only [c4, h2, hat, drs_len, normRows_drs, h3b, h4, h5, h6, Qs, if_true, if_false, List.nodup_nil, Nat.reduceAdd, Nat.reduceLeDiff, Nat.reduceBEq, vv f11r12.eq_1, uu f11b13.eq_1, uu f11b14.eq_1, vv f11r15.eq_1, uu f11b16.eq_1, uu f11b17.eq_1, uu f11b20.eq_1]
      exact fin hS (by rw [kY nA (.inl h6)])
    by_cases h7 : x.u > 100000
    · simp only [c4, h2, hat, drs_len, normRows_drs, h3b, h4, h5, h6, h7, Qs, if_true, if_false, List.nodup_nil, Nat.reduceAdd, Nat.reduceLeDiff, Nat.reduceBEq, vv f11r12.eq_1, uu f11b13.eq_1, uu f11b14.eq_1, vv f11r15.eq_1, uu f11b16.eq_1, uu f11b17.eq_1, uu f11b20.eq_1]
      exact fin hS (by rw [kY nA (.inr (.inl h7))])
    by_cases h8 : x.y ≥ x.u
    · simp only [c4, h2, hat, drs_len, normRows_drs, h3b, h4, h5, h6, h7, h8, Qs, if_true, if_false, List.nodup_nil, Nat.reduceAdd, Nat.reduceLeDiff, Nat.reduceBEq, vv f11r12.eq_1, uu f11b13.eq_1, uu f11b14.eq_1, vv f11r15.eq_1, uu f11b16.eq_1, uu f11b17.eq_1, uu f11b20.eq_1]
      exact fin hS (by rw [kY nA (.inr (.inr h8))])
    have nY : ¬ badY x := by unfold badY; omega
    by_cases h9 : x.c = -1
    · have h9b : (x.c != -1) = false := by simp [h9]
      have h9c : (x.c == -1) = true := by simp [h9]
      simp only [c4, h2, hat, drs_len, normRows_drs, h3b, h4, h5, h6, h7, h8, h9b, h9c, Qs, if_true, if_false, Int.reduceNeg, Nat.reduceAdd, Nat.reduceLeDiff, Nat.reduceBEq, uu f11b9.eq_1, vv f11r10.eq_1, uu f11b11.eq_1, uu f11b14.eq_1, vv f11r15.eq_1, uu f11b16.eq_1, uu f11b17.eq_1, uu f11b20.eq_1]
      exact Next.intro (i + 1) rfl rfl ⟨by omega, kN nA nY (fun h => h.1 h9)⟩ (by omega)
    have h9b : (x.c != -1) = true := by simp [h9]
    have h9c : (x.c == -1) = false := by simp [h9]
    by_cases h10 : x.c < 0
    · simp only [c4, h2, hat, drs_len, normRows_drs, h3b, h4, h5, h6, h7, h8, h9b, h9c, h10, Qs, if_true, if_false, Int.reduceNeg, List.nodup_nil, Nat.reduceAdd, Nat.reduceLeDiff, Nat.reduceBEq, vv f11r4.eq_1, uu f11b5.eq_1, uu f11b6.eq_1, vv f11r7.eq_1, uu f11b8.eq_1, uu f11b9.eq_1, vv f11r10.eq_1, uu f11b11.eq_1, uu f11b14.eq_1, vv f11r15.eq_1, uu f11b16.eq_1, uu f11b17.eq_1, uu f11b20.eq_1]
      exact fin hS (by rw [kC nA nY ⟨h9, .inl h10⟩])
    by_cases h11 : x.c ≥ (i : Int)
    · simp only [c4, h2, hat, drs_len, normRows_drs, h3b, h4, h5, h6, h7, h8, h9b, h9c, h10, h11, Qs, if_true, if_false, Int.reduceNeg, List.nodup_nil, Nat.reduceAdd, Nat.reduceLeDiff, Nat.reduceBEq, vv f11r4.eq_1, uu f11b5.eq_1, uu f11b6.eq_1, vv f11r7.eq_1, uu f11b8.eq_1, uu f11b9.eq_1, vv f11r10.eq_1, uu f11b11.eq_1, uu f11b14.eq_1, vv f11r15.eq_1, uu f11b16.eq_1, uu f11b17.eq_1, uu f11b20.eq_1]
      exact fin hS (by rw [kC nA nY ⟨h9, .inr (.inl h11)⟩])
    have hcat := drs_dat (l := l) (i := x.c) (by omega) (by omega)
    have hc0 : 0 ≤ x.c := by omega
    have hc1 : x.c < (l.length : Int) := by omega
    by_cases h12 : (dat l x.c).a = x.d
    · skip
      have h12b : ((dat l x.c).a != x.d) = false := by simp [h12]
      by_cases h13 : (dat l x.c).u < x.y
      · simp only [c4, h2, hat, drs_len, normRows_drs, h3b, h4, h5, h6, h7, h8, h9b, h9c, h10, h11, hcat, hc0, hc1, h12b, h13, Qs, if_true, if_false, Int.reduceNeg, List.nodup_nil, Nat.reduceAdd, Nat.reduceLeDiff, Nat.reduceBEq, vv f11r4.eq_1, uu f11b5.eq_1, uu f11b6.eq_1, vv f11r7.eq_1, uu f11b8.eq_1, uu f11b9.eq_1, vv f11r10.eq_1, uu f11b11.eq_1, uu f11b14.eq_1, vv f11r15.eq_1, uu f11b16.eq_1, uu f11b17.eq_1, uu f11b20.eq_1]
        exact fin hS (by rw [kC nA nY ⟨h9, .inr (.inr (.inr h13))⟩])
      simp only [c4, h2, hat, drs_len, normRows_drs, h3b, h4, h5, h6, h7, h8, h9b, h9c, h10, h11, hcat, hc0, hc1, h12b, h13, Qs, if_true, if_false, Int.reduceNeg, Nat.reduceAdd, Nat.reduceLeDiff, Nat.reduceBEq, uu f11b6.eq_1, vv f11r7.eq_1, uu f11b8.eq_1, uu f11b9.eq_1, vv f11r10.eq_1, uu f11b11.eq_1, uu f11b14.eq_1, vv f11r15.eq_1, uu f11b16.eq_1, uu f11b17.eq_1, uu f11b20.eq_1]
      exact Next.intro (i + 1) rfl rfl ⟨by omega, kN nA nY (fun h => by rcases h.2 with h | h | h | h; exact h10 h; exact h11 h; exact h h12; exact h13 h)⟩ (by omega)
    · have h12b : ((dat l x.c).a != x.d) = true := by simp [h12]
      simp only [c4, h2, hat, drs_len, normRows_drs, h3b, h4, h5, h6, h7, h8, h9b, h9c, h10, h11, hcat, hc0, hc1, h12b, Qs, if_true, if_false, Int.reduceNeg, List.nodup_nil, Nat.reduceAdd, Nat.reduceLeDiff, Nat.reduceBEq, vv f11r4.eq_1, uu f11b5.eq_1, uu f11b6.eq_1, vv f11r7.eq_1, uu f11b8.eq_1, uu f11b9.eq_1, vv f11r10.eq_1, uu f11b11.eq_1, uu f11b14.eq_1, vv f11r15.eq_1, uu f11b16.eq_1, uu f11b17.eq_1, uu f11b20.eq_1]
      exact fin hS (by rw [kC nA nY ⟨h9, .inr (.inr (.inl h12))⟩])
  · obtain rfl : i = l.length := by omega
    have c1 : ¬ (l.length : Int) < l.length := by omega
    rw [List.drop_length, chkL] at hd
    simp only [c1, drs_len, Qs, if_true, List.nodup_nil, Nat.reduceBEq, vv f11r1.eq_1, uu f11b2.eq_1, uu f11b28.eq_1, vv f11r29.eq_1, uu f11b30.eq_1, uu f11b31.eq_1]
    exact fin hS (by rw [← hd])
theorem d10 (l : List Dr) : Spec Try.prog 10 [lst 6 (drs l)] (fun r => r = .int .i64 (chkG l)) := by
  refine Spec.of_awlS hf10 okf10 (by simp) fun S hS => ?_
  by_cases b1 : (l.length : Int) > 100
  · unfold chkG at hS
    rw [if_pos b1] at hS
    simp only [b1, drs_len, normRows_drs, Qs, if_true, List.nodup_nil, Nat.reduceBEq, uu f10.eq_1, vv f10r38.eq_1, uu f10b39.eq_1, uu f10b40.eq_1, vv f10r41.eq_1, uu f10b42.eq_1, uu f10b43.eq_1, vv f10r44.eq_1, uu f10b45.eq_1]
    exact hS
  unfold chkG at hS
  rw [if_neg b1] at hS
  simp only [b1, drs_len, normRows_drs, Qs, if_true, Nat.reduceBEq, uu f10.eq_1, uu f10b34.eq_1, vv f10r35.eq_1, uu f10b36.eq_1, uu f10b37.eq_1, uu f10b40.eq_1, vv f10r41.eq_1, uu f10b42.eq_1, uu f10b43.eq_1, vv f10r44.eq_1, uu f10b45.eq_1]
  rw [uu f10l33.eq_1]
  refine awl_loop (fun i : Nat => [(0, lst 6 (drs l)), (8, lst 6 (drs l)), (9, .int .i64 l.length), (10, .int .i64 i)]) (fun _ => []) (fun i => i ≤ l.length ∧ chkL l i (l.drop i) = chkL l 0 l) (fun i => l.length - i) 0 rfl rfl ⟨Nat.zero_le _, rfl⟩ ?_
  rintro i ⟨hi, hd⟩
  by_cases hlt : i < l.length
  · have c1 : (i : Int) < l.length := by omega
    have c4 : IntKind.i64.wrap ((i : Int) + 1) = (i : Int) + 1 := wrap_in (by omega) (by omega)
    obtain ⟨x, hx⟩ : ∃ x, dat l i = x := ⟨_, rfl⟩
    have hat := drs_nat hlt
    rw [hx] at hat
    have g1 := d27 x.d
    have g2 := d27 x.a
    have kA := chk_A hd hlt
    have kY := chk_Y hd hlt
    have kC := chk_C hd hlt
    have kN := chk_N hd hlt
    rw [hx] at kA kY kC kN
    have hcat : True := trivial
    simp only [c1, c4, drs_len, hat, normRows_drs, Qs, if_true, if_false, List.append_nil, Nat.reduceAdd, Nat.reduceLeDiff, Nat.reduceBEq, vv f10r3.eq_1, vv f10r21.eq_1, uu f10b22.eq_1, uu f10b23.eq_1, uu f10b24.eq_1, vv f10r25.eq_1, uu f10b26.eq_1, uu f10b27.eq_1, uu f10b28.eq_1, uu f10b29.eq_1, uu f10b30.eq_1, vv f10r31.eq_1, uu f10b32.eq_1]
    refine call_s g1 ?_
    cases h1 : firmB x.d with
    | false =>
      simp only [c4, h1, hat, drs_len, normRows_drs, Qs, List.nodup_nil, Nat.reduceBEq, vv f10r13.eq_1, uu f10b14.eq_1, uu f10b20.eq_1]
      exact fin hS (by rw [kA (.inl h1)])
    | true =>
    simp only [c4, h1, hat, drs_len, normRows_drs, Qs, if_false, Nat.reduceAdd, Nat.reduceLeDiff, Nat.reduceBEq]
    refine call_s g2 ?_
    cases h2 : firmB x.a with
    | false =>
      simp only [c4, h2, hat, drs_len, normRows_drs, Qs, if_false, List.nodup_nil, Nat.reduceBEq, vv f10r13.eq_1, uu f10b14.eq_1, uu f10b20.eq_1]
      exact fin hS (by rw [kA (.inr (.inl h2))])
    | true =>
    by_cases h3 : x.d = x.a
    · have h3b : (x.d == x.a) = true := by simpa using h3
      simp only [c4, h2, hat, drs_len, normRows_drs, h3b, Qs, if_true, if_false, List.nodup_nil, Nat.reduceAdd, Nat.reduceLeDiff, Nat.reduceBEq, vv f10r13.eq_1, uu f10b14.eq_1, uu f10b20.eq_1]
      exact fin hS (by rw [kA (.inr (.inr (.inl h3)))])
    have h3b : (x.d == x.a) = false := by simpa using h3
    by_cases h4 : x.s < 1
    · simp only [c4, h2, hat, drs_len, normRows_drs, h3b, h4, Qs, if_true, if_false, List.nodup_nil, Nat.reduceAdd, Nat.reduceLeDiff, Nat.reduceBEq, vv f10r13.eq_1, uu f10b14.eq_1, uu f10b20.eq_1]
      exact fin hS (by rw [kA (.inr (.inr (.inr (.inl h4))))])
    by_cases h5 : x.s > 1099511627776
    · simp only [c4, h2, hat, drs_len, normRows_drs, h3b, h4, h5, Qs, if_true, if_false, List.nodup_nil, Nat.reduceAdd, Nat.reduceLeDiff, Nat.reduceBEq, vv f10r13.eq_1, uu f10b14.eq_1, uu f10b20.eq_1]
      exact fin hS (by rw [kA (.inr (.inr (.inr (.inr h5))))])
    have nA : ¬ badA x := by unfold badA; rw [h1, h2]; simp; omega
    simp only [c4, h2, hat, drs_len, normRows_drs, h3b, h4, h5, Qs, if_true, if_false, Nat.reduceAdd, Nat.reduceLeDiff, Nat.reduceBEq, vv f10r18.eq_1, uu f10b19.eq_1, uu f10b20.eq_1]
    refine call_s (d28 x.y) ?_
    cases h6 : dayB x.y with
    | false =>
      simp only [c4, hat, drs_len, normRows_drs, h6, Qs, List.nodup_nil, Nat.reduceBEq, vv f10r15.eq_1, uu f10b16.eq_1, uu f10b17.eq_1]
      exact fin hS (by rw [kY nA (by unfold dayB at h6; simp at h6; unfold badY; omega)])
    | true =>
    simp only [c4, hat, drs_len, normRows_drs, h6, Qs, if_false, Nat.reduceAdd, Nat.reduceLeDiff, Nat.reduceBEq]
    refine call_s (d28 x.u) ?_
    cases h7 : dayB x.u with
    | false =>
      simp only [c4, hat, drs_len, normRows_drs, h7, Qs, if_false, List.nodup_nil, Nat.reduceBEq, vv f10r15.eq_1, uu f10b16.eq_1, uu f10b17.eq_1]
      exact fin hS (by rw [kY nA (by unfold dayB at h6 h7; simp at h6 h7; unfold badY; omega)])
    | true =>
    by_cases h8 : x.y ≥ x.u
    · simp only [c4, hat, drs_len, normRows_drs, h7, h8, Qs, if_true, if_false, List.nodup_nil, Nat.reduceAdd, Nat.reduceLeDiff, Nat.reduceBEq, vv f10r15.eq_1, uu f10b16.eq_1, uu f10b17.eq_1]
      exact fin hS (by rw [kY nA (.inr (.inr h8))])
    have nY : ¬ badY x := by unfold dayB at h6 h7; simp at h6 h7; unfold badY; omega
    by_cases h9 : x.c = -1
    · have h9b : (x.c != -1) = false := by simp [h9]
      have h9c : (x.c == -1) = true := by simp [h9]
      simp only [c4, hat, drs_len, normRows_drs, h7, h8, h9b, h9c, Qs, if_true, if_false, Int.reduceNeg, Nat.reduceAdd, Nat.reduceLeDiff, Nat.reduceBEq, uu f10b9.eq_1, vv f10r10.eq_1, uu f10b11.eq_1, uu f10b12.eq_1, uu f10b17.eq_1]
      exact Next.intro (i + 1) rfl rfl ⟨by omega, kN nA nY (fun h => h.1 h9)⟩ (by omega)
    have h9b : (x.c != -1) = true := by simp [h9]
    have h9c : (x.c == -1) = false := by simp [h9]
    by_cases h10 : x.c < 0
    · simp only [c4, hat, drs_len, normRows_drs, h7, h8, h9b, h9c, h10, Qs, if_true, if_false, Int.reduceNeg, List.nodup_nil, Nat.reduceAdd, Nat.reduceLeDiff, Nat.reduceBEq, vv f10r4.eq_1, uu f10b5.eq_1, uu f10b6.eq_1, vv f10r7.eq_1, uu f10b8.eq_1, uu f10b9.eq_1, vv f10r10.eq_1, uu f10b11.eq_1, uu f10b12.eq_1, uu f10b17.eq_1]
      exact fin hS (by rw [kC nA nY ⟨h9, .inl h10⟩])
    by_cases h11 : x.c ≥ (i : Int)
    · simp only [c4, hat, drs_len, normRows_drs, h7, h8, h9b, h9c, h10, h11, Qs, if_true, if_false, Int.reduceNeg, List.nodup_nil, Nat.reduceAdd, Nat.reduceLeDiff, Nat.reduceBEq, vv f10r4.eq_1, uu f10b5.eq_1, uu f10b6.eq_1, vv f10r7.eq_1, uu f10b8.eq_1, uu f10b9.eq_1, vv f10r10.eq_1, uu f10b11.eq_1, uu f10b12.eq_1, uu f10b17.eq_1]
      exact fin hS (by rw [kC nA nY ⟨h9, .inr (.inl h11)⟩])
    have hcat := drs_dat (l := l) (i := x.c) (by omega) (by omega)
    have hc0 : 0 ≤ x.c := by omega
    have hc1 : x.c < (l.length : Int) := by omega
    by_cases h12 : (dat l x.c).a = x.d
    · skip
      have h12b : ((dat l x.c).a != x.d) = false := by simp [h12]
      by_cases h13 : (dat l x.c).u < x.y
      · simp only [c4, hat, drs_len, normRows_drs, h7, h8, h9b, h9c, h10, h11, hcat, hc0, hc1, h12b, h13, Qs, if_true, if_false, Int.reduceNeg, List.nodup_nil, Nat.reduceAdd, Nat.reduceLeDiff, Nat.reduceBEq, vv f10r4.eq_1, uu f10b5.eq_1, uu f10b6.eq_1, vv f10r7.eq_1, uu f10b8.eq_1, uu f10b9.eq_1, vv f10r10.eq_1, uu f10b11.eq_1, uu f10b12.eq_1, uu f10b17.eq_1]
        exact fin hS (by rw [kC nA nY ⟨h9, .inr (.inr (.inr h13))⟩])
      simp only [c4, hat, drs_len, normRows_drs, h7, h8, h9b, h9c, h10, h11, hcat, hc0, hc1, h12b, h13, Qs, if_true, if_false, Int.reduceNeg, Nat.reduceAdd, Nat.reduceLeDiff, Nat.reduceBEq, uu f10b6.eq_1, vv f10r7.eq_1, uu f10b8.eq_1, uu f10b9.eq_1, vv f10r10.eq_1, uu f10b11.eq_1, uu f10b12.eq_1, uu f10b17.eq_1]
      exact Next.intro (i + 1) rfl rfl ⟨by omega, kN nA nY (fun h => by rcases h.2 with h | h | h | h; exact h10 h; exact h11 h; exact h h12; exact h13 h)⟩ (by omega)
    · have h12b : ((dat l x.c).a != x.d) = true := by simp [h12]
      simp only [c4, hat, drs_len, normRows_drs, h7, h8, h9b, h9c, h10, h11, hcat, hc0, hc1, h12b, Qs, if_true, if_false, Int.reduceNeg, List.nodup_nil, Nat.reduceAdd, Nat.reduceLeDiff, Nat.reduceBEq, vv f10r4.eq_1, uu f10b5.eq_1, uu f10b6.eq_1, vv f10r7.eq_1, uu f10b8.eq_1, uu f10b9.eq_1, vv f10r10.eq_1, uu f10b11.eq_1, uu f10b12.eq_1, uu f10b17.eq_1]
      exact fin hS (by rw [kC nA nY ⟨h9, .inr (.inr (.inl h12))⟩])
  · obtain rfl : i = l.length := by omega
    have c1 : ¬ (l.length : Int) < l.length := by omega
    rw [List.drop_length, chkL] at hd
    simp only [c1, drs_len, Qs, if_true, List.nodup_nil, Nat.reduceBEq, vv f10r1.eq_1, uu f10b2.eq_1, uu f10b29.eq_1, uu f10b30.eq_1, vv f10r31.eq_1, uu f10b32.eq_1]
    exact fin hS (by rw [← hd])
end Go.Abs


set_option maxRecDepth 100000
namespace Go.Proofs
open Go.Shelf
def Try.laysSort_ren : Go.Shelf.Ren :=
  {
    f := fun x =>
      match x with
      | 189 => 66
      | 125 => 45
      | 257 => 73
      | 128 => 63
      | 129 => 64
      | 294 => 75
      | 295 => 76
      | 296 => 77
      | 297 => 78
      | 298 => 79
      | 299 => 80
      | 216 => 81
      | 300 => 82
      | 301 => 83
      | 328 => 84
      | 329 => 69
      | 330 => 70
      | 331 => 85
      | 332 => 86
      | 215 => 65
      | 343 => 87
      | n => n,
    t := fun x =>
      match x with
      | 28 => 23
      | 3 => 3
      | 46 => 64
      | 0 => 0
      | 51 => 81
      | 53 => 83
      | 4 => 4
      | 183 => 74
      | 182 => 73
      | 131 => 78
      | 5 => 5
      | 9 => 9
      | 218 => 85
      | 222 => 89
      | 228 => 92
      | 229 => 93
      | n => n,
    g := fun n => n }
theorem Try.laysSort : Lays.n189 Try.prog Try.laysSort_ren :=
  { mixed := by kernel_rfl, f125 := Eq.trans Try.func45 (congrArg some (Eq.refl (Body.n125 Try.laysSort_ren))),
    f128 := Eq.trans Try.func63 (congrArg some (Eq.refl (Body.n128 Try.laysSort_ren))),
    f129 := Eq.trans Try.func64 (congrArg some (Eq.refl (Body.n129 Try.laysSort_ren))),
    f189 := Eq.trans Try.func66 (congrArg some (Eq.refl (Body.n189 Try.laysSort_ren))),
    f215 := Eq.trans Try.func65 (congrArg some (Eq.refl (Body.n215 Try.laysSort_ren))),
    f216 := Eq.trans Try.func81 (congrArg some (Eq.refl (Body.n216 Try.laysSort_ren))),
    f257 := Eq.trans Try.func73 (congrArg some (Eq.refl (Body.n257 Try.laysSort_ren))),
    f294 := Eq.trans Try.func75 (congrArg some (Eq.refl (Body.n294 Try.laysSort_ren))),
    f295 := Eq.trans Try.func76 (congrArg some (Eq.refl (Body.n295 Try.laysSort_ren))),
    f296 := Eq.trans Try.func77 (congrArg some (Eq.refl (Body.n296 Try.laysSort_ren))),
    f297 := Eq.trans Try.func78 (congrArg some (Eq.refl (Body.n297 Try.laysSort_ren))),
    f298 := Eq.trans Try.func79 (congrArg some (Eq.refl (Body.n298 Try.laysSort_ren))),
    f299 := Eq.trans Try.func80 (congrArg some (Eq.refl (Body.n299 Try.laysSort_ren))),
    f300 := Eq.trans Try.func82 (congrArg some (Eq.refl (Body.n300 Try.laysSort_ren))),
    f301 := Eq.trans Try.func83 (congrArg some (Eq.refl (Body.n301 Try.laysSort_ren))),
    f328 := Eq.trans Try.func84 (congrArg some (Eq.refl (Body.n328 Try.laysSort_ren))),
    f329 := Eq.trans Try.func69 (congrArg some (Eq.refl (Body.n329 Try.laysSort_ren))),
    f330 := Eq.trans Try.func70 (congrArg some (Eq.refl (Body.n330 Try.laysSort_ren))),
    f331 := Eq.trans Try.func85 (congrArg some (Eq.refl (Body.n331 Try.laysSort_ren))),
    f332 := Eq.trans Try.func86 (congrArg some (Eq.refl (Body.n332 Try.laysSort_ren))),
    f343 := Eq.trans Try.func87 (congrArg some (Eq.refl (Body.n343 Try.laysSort_ren))), t0 := Try.underlying0,
    a0 := Try.isAgg0, z0 := Try.sizeOf0, v0 := Try.zeroValue0, t3 := Try.underlying3, a3 := Try.isAgg3, z3 := Try.sizeOf3,
    v3 := Try.zeroValue3, t4 := Try.underlying4, a4 := Try.isAgg4, z4 := Try.sizeOf4, v4 := Try.zeroValue4,
    t5 := Try.underlying5, a5 := Try.isAgg5, z5 := Try.sizeOf5, v5 := Try.zeroValue5, t9 := Try.underlying9,
    a9 := Try.isAgg9, z9 := Try.sizeOf9, v9 := Try.zeroValue9, t28 := Try.underlying23, a28 := Try.isAgg23,
    z28 := Try.sizeOf23, v28 := Try.zeroValue23, t46 := Try.underlying64, a46 := Try.isAgg64, z46 := Try.sizeOf64,
    v46 := Try.zeroValue64, t51 := Try.underlying81, a51 := Try.isAgg81, z51 := Try.sizeOf81, v51 := Try.zeroValue81,
    t53 := Try.underlying83, a53 := Try.isAgg83, z53 := Try.sizeOf83, v53 := Try.zeroValue83, t131 := Try.underlying78,
    a131 := Try.isAgg78, z131 := Try.sizeOf78, v131 := Try.zeroValue78, t182 := Try.underlying73, a182 := Try.isAgg73,
    z182 := Try.sizeOf73, v182 := Try.zeroValue73, t183 := Try.underlying74, a183 := Try.isAgg74, z183 := Try.sizeOf74,
    v183 := Try.zeroValue74, t218 := Try.underlying85, a218 := Try.isAgg85, z218 := Try.sizeOf85, v218 := Try.zeroValue85,
    t222 := Try.underlying89, a222 := Try.isAgg89, z222 := Try.sizeOf89, v222 := Try.zeroValue89,
    t228 := Try.underlying92, a228 := Try.isAgg92, z228 := Try.sizeOf92, v228 := Try.zeroValue92,
    t229 := Try.underlying93, a229 := Try.isAgg93, z229 := Try.sizeOf93, v229 := Try.zeroValue93 }
def Try.laysCompact_ren : Go.Shelf.Ren :=
  {
    f := fun x =>
      match x with
      | 20 => 67
      | n => n,
    t := fun x =>
      match x with
      | 22 => 23
      | 3 => 3
      | 4 => 4
      | 0 => 0
      | n => n,
    g := fun n => n }
theorem Try.laysCompact : Lays2.n20 Try.prog Try.laysCompact_ren :=
  { mixed := by kernel_rfl, f20 := Eq.trans Try.func67 (congrArg some (Eq.refl (Body2.n20 Try.laysCompact_ren))),
    t0 := Try.underlying0, a0 := Try.isAgg0, z0 := Try.sizeOf0, v0 := Try.zeroValue0, t3 := Try.underlying3,
    a3 := Try.isAgg3, z3 := Try.sizeOf3, v3 := Try.zeroValue3, t4 := Try.underlying4, a4 := Try.isAgg4, z4 := Try.sizeOf4,
    v4 := Try.zeroValue4, t22 := Try.underlying23, a22 := Try.isAgg23, z22 := Try.sizeOf23, v22 := Try.zeroValue23,
    i3 := by kernel_rfl }
def Try.laysReverse_ren : Go.Shelf.Ren :=
  {
    f := fun x =>
      match x with
      | 112 => 43
      | n => n,
    t := fun x =>
      match x with
      | 28 => 23
      | 3 => 3
      | 4 => 4
      | 0 => 0
      | n => n,
    g := fun n => n }
theorem Try.laysReverse : Lays.n112 Try.prog Try.laysReverse_ren :=
  { mixed := by kernel_rfl, f112 := Eq.trans Try.func43 (congrArg some (Eq.refl (Body.n112 Try.laysReverse_ren))),
    t0 := Try.underlying0, a0 := Try.isAgg0, z0 := Try.sizeOf0, v0 := Try.zeroValue0, t3 := Try.underlying3,
    a3 := Try.isAgg3, z3 := Try.sizeOf3, v3 := Try.zeroValue3, t4 := Try.underlying4, a4 := Try.isAgg4, z4 := Try.sizeOf4,
    v4 := Try.zeroValue4, t28 := Try.underlying23, a28 := Try.isAgg23, z28 := Try.sizeOf23, v28 := Try.zeroValue23 }
open Go.RowKit Go.Lib Go.Sort
theorem sort66 (B : Nat) (v : Value) (ss : List Int) (w : World) (h : w.ownsRow B 3 1 v ss.length (ss.map (Value.int .i64))) (hl : ss.length < 4611686018427387904) :
    Calls Try.prog 66 #[v] w fun e w' => e = .returned (.tuple #[]) ∧ w'.ownsRow B 3 1 v ss.length ((Go.Abs.sortI ss).map (Value.int .i64)) ∧ w.grownBy w' v.ownBlock := by
  have hls : (Go.Abs.sortI ss).length = ss.length := List.length_mergeSort ss
  rcases h.2 with ⟨hv, h0⟩ | ⟨g, cap, cur, hv, hbase, hb, h1, h2, h3, h4⟩
  · subst hv
    have : ss = [] := List.eq_nil_of_length_eq_zero h0
    subst this
    refine (Any.slices_Sort_int_none Try.laysSort none 0 w).mono ?_
    rintro e w' ⟨rfl, rfl⟩
    rw [Go.Abs.sortI_nil]
    exact ⟨rfl, h, World.grownBy.refl _ _⟩
  · subst hv
    refine (Any.slices_Sort_int Try.laysSort g 0 cap ss w (holds_of_blockI hb (by simpa using h4)) (Array.getElem?_eq_some_iff.1 hb).1 hl).mono ?_
    rintro e w' ⟨rfl, n, os, rfl⟩
    exact ⟨rfl, ownsRow_sortedI (ts := Go.Abs.sortI ss) hls hbase hb h1 h2 h3, grownBy_sortedI _⟩
theorem compact67 (B : Nat) (v : Value) (ss : List Int) (w : World) (h : w.ownsRow B 3 1 v ss.length (ss.map (Value.int .i64))) :
    Calls Try.prog 67 #[v] w fun e w' => ∃ p c, e = .returned (.slice p (compact ss).length c) ∧ (Value.slice p (compact ss).length c).ownBlock = v.ownBlock ∧ w'.ownsRow B 3 1 (.slice p (compact ss).length c) (compact ss).length ((compact ss).map (Value.int .i64)) ∧ w.grownBy w' v.ownBlock := by
  have hle := compact_length_le ss
  rcases h.2 with ⟨hv, h0⟩ | ⟨g, cap, cur, hv, hbase, hb, h1, h2, h3, h4⟩
  · subst hv
    have : ss = [] := List.eq_nil_of_length_eq_zero h0
    subst this
    refine (Any.slices_Compact_int_empty Try.laysCompact none 0 w).mono ?_
    rintro e w' ⟨rfl, rfl⟩
    exact ⟨none, 0, rfl, rfl, h, World.grownBy.refl _ _⟩
  · subst hv
    have hm : ss.length ≤ maxLen := Nat.le_trans h1 h2
    refine (Any.slices_Compact_int Try.laysCompact g 0 cap ss w (holds_of_blockI hb (by simpa using h4)) (by simp only [maxLen] at hm; omega) h1).mono ?_
    rintro e w' ⟨rfl, q, rfl⟩
    have hc := ownsRow_putRow (q := q) (k := (compact ss).length) (ys := compact ss ++ List.replicate (ss.length - (compact ss).length) 0) h (by simp; omega) hle
    rw [List.take_left] at hc
    have hg := grownBy_sortedI (w := w) (g := g) (n := q) (os := #[]) (compact ss ++ List.replicate (ss.length - (compact ss).length) 0).toArray
    rw [grow_empty] at hg
    exact ⟨_, cap, rfl, rfl, hc, hg⟩
end Go.Proofs


set_option maxRecDepth 100000
set_option maxHeartbeats 4000000
namespace Go.Proofs
open Go.Shelf Go.RowKit Go.Lib Go.Sort
theorem aside0 {p : Prop} (h : p) : Aside p := h
theorem step_append_own {P : Program} {ops : Array Oper} {o : Oper} {a : Act} {w : World} {K : Act → World → Prop} {Q : Exit → Act → World → Prop} {E : Prop}
    (hg : o.guard = none) (s x : Operand) (t : TypeId) (hop : o.op = Op.call { callee := Callee.builtin Builtin.append, args := #[s, x], argTypes := #[t, t] })
    (base : Nat) (e : TypeId) (i : TypeInfo) (z : Value) (size bytes : Nat) (h1 : P.underlying t = some (.slice e)) (h2 : P.info? e = some i) (h3 : i.zero = some z) (h4 : i.size = size) (h5 : i.bytes = bytes) (h6 : z.cells.size = size) (h7 : 0 < size)
    (v : Value) (n : Nat) (xs : List Value) (hs : a.eval s = v) (hown : w.ownsRow base e size v n xs)
    (ad : Addr) (m c : Nat) (news : List Value) (hx : a.eval x = .slice (some ad) m c) (hn : news.length = m * size) (hc : ∀ j u, news[j]? = some u → w.cell? (ad.add j) = some u) (h1c : ∀ u ∈ news, u.oneCell' = true)
    (b1 : n + m ≤ maxLen) (b2 : (n + m) * bytes ≤ 140737488355328) (hbase : base ≤ w.heap.size)
    (hK : ∀ v' w', w'.ownsRow base e size v' (n + m) (xs ++ news) → w.grownBy w' v.ownBlock → (v'.ownBlock = v.ownBlock ∨ v'.ownBlock = some w.heap.size) → K (a.put o.dst v') w') :
    if Region.wanted o (yielded ops a.tmps) = true then Oper.wp P o a w K Q else E := by
  have hw : Region.wanted o (yielded ops a.tmps) = true := by simp [Region.wanted, hg]
  rw [if_pos hw]
  obtain ⟨v', w', hr, r2, r3, r4, r5⟩ := run_append_own_at (P := P) w base t o.type e i z size bytes h1 h2 h3 h4 h5 h6 h7 v n xs hown ad m c news hn hc h1c b1 b2 hbase
  unfold Oper.wp
  simp [execOp, hop, resolve, invoke, builtin, hs, hx, hr, Result.andThen]
  exact hK v' w' r2 r3 r5
def edgesTo (E : Nat → Int × Int) (m i : Nat) : List Int := ((List.range m).filter fun k => decide ((E k).1 = i)).map fun k => (E k).2
structure NxC (w : World) (g n : Nat) (L : Nat → List Int) (V : Nat → Value) (wr : World) : Prop where
  row : wr.rowIs g 23 n V
  own : ∀ i, i < n → wr.ownsRow (g + 1) 3 1 (V i) (L i).length ((L i).map (Value.int .i64))
  sep : ∀ i j, i < n → j < n → i ≠ j → (V i).ownBlock = none ∨ (V i).ownBlock ≠ (V j).ownBlock
  bel : Below w.heap.size w wr
  hb : w.heap.size ≤ g
theorem NxC.start (w : World) (n : Nat) (E : Nat → Int × Int) : NxC w w.heap.size n (fun i => ((List.range 0).filter fun k => decide ((E k).1 = i)).map fun k => (E k).2) (fun _ => .slice none 0 0) (w.alloc (.cells (madeCells #[.slice none 0 0] n) 23)) :=
  ⟨World.rowIs_made w _ n 23, fun i _ => ⟨rfl, .inl ⟨rfl, rfl⟩⟩, fun i j _ _ _ => .inl rfl, (Below.refl _ _).alloc (Nat.le_refl _) _, Nat.le_refl _⟩
structure NxW (w : World) (g n x : Nat) (y : Int) (L : Nat → List Int) (V : Nat → Value) (r : Nat) (W : World) : Prop where
  c : NxC w g n L V W
  e0 : W.cell? ⟨r, 0, none⟩ = some (.int .i64 (x : Int))
  e1 : W.cell? ⟨r, 1, none⟩ = some (.int .i64 y)
  r0 : g < r
  r1 : r < W.heap.size
  r2 : ∀ i, i < n → (V i).ownBlock = none ∨ (V i).ownBlock ≠ some r
theorem NxC.alloc {w wr : World} {g n : Nat} {L : Nat → List Int} {V : Nat → Value} (A : NxC w g n L V wr) (o : Obj) : NxC w g n L V (wr.alloc o) :=
  ⟨A.row.alloc o, fun i hi => (A.own i hi).alloc o, A.sep, A.bel.alloc A.bel.size o, A.hb⟩
theorem NxC.edge {w wr : World} {g n x : Nat} {y : Int} {L : Nat → List Int} {V : Nat → Value} (A : NxC w g n L V wr) : NxW w g n x y L V wr.heap.size (wr.alloc (.cells #[.int .i64 (x : Int), .int .i64 y] 59)) :=
  ⟨A.alloc _, by rw [Lib.cell_of_heap (heap_alloc_new wr _)]; rfl, by rw [Lib.cell_of_heap (heap_alloc_new wr _)]; rfl, A.row.lt, by show _ < (wr.heap.push _).size; rw [Array.size_push]; omega, fun i hi => by
    cases h : (V i).ownBlock with
    | none => exact .inl rfl
    | some j => exact .inr fun e => by have := ((A.own i hi).lt j h).2; cases e; omega⟩
theorem NxW.alloc {w W : World} {g n x r : Nat} {y : Int} {L : Nat → List Int} {V : Nat → Value} (A : NxW w g n x y L V r W) (o : Obj) : NxW w g n x y L V r (W.alloc o) :=
  ⟨A.c.alloc o, (World.cell?_of_block (w := W) (Below.heap_alloc W o r A.r1)).trans A.e0, (World.cell?_of_block (w := W) (Below.heap_alloc W o r A.r1)).trans A.e1, A.r0, by show _ < (W.heap.push _).size; rw [Array.size_push]; have := A.r1; omega, A.r2⟩
theorem NxW.grown {w W w' : World} {g n x r : Nat} {y : Int} {L : Nat → List Int} {V : Nat → Value} (A : NxW w g n x y L V r W) (hx : x < n) (hg : W.grownBy w' (V x).ownBlock) :
    w'.rowIs g 23 n V ∧ w'.cell? ⟨r, 0, none⟩ = some (.int .i64 (x : Int)) ∧ w'.cell? ⟨r, 1, none⟩ = some (.int .i64 y) ∧ Below w.heap.size w w' := by
  have hl : ∀ j, (V x).ownBlock = some j → g + 1 ≤ j ∧ j < W.heap.size := (A.c.own x hx).lt
  have hgl : g < W.heap.size := A.c.row.lt
  have hne : some g ≠ (V x).ownBlock := fun e => by have := (hl g e.symm).1; omega
  have hnr : some r ≠ (V x).ownBlock := fun e => by rcases A.r2 x hx with h | h; rw [h] at e; cases e; exact h e.symm
  exact ⟨A.c.row.of_block (hg.block g hgl hne), (World.cell?_of_block (w := W) (hg.block r A.r1 hnr)).trans A.e0, (World.cell?_of_block (w := W) (hg.block r A.r1 hnr)).trans A.e1, A.c.bel.grown hg A.c.bel.size (fun j hj => by have := (hl j hj).1; have := A.c.hb; omega)⟩
theorem grown_drew {w w' : World} {row : Option Nat} (h : w.drew.grownBy w' row) : w.grownBy w' row := ⟨h.os, h.tape, h.output, h.size, h.block⟩
theorem own_form {w : World} {base e size n : Nat} {v : Value} {xs : List Value} (h : w.ownsRow base e size v n xs) : ∃ p c, v = .slice p n c := by
  rcases h.2 with ⟨rfl, rfl⟩ | ⟨g, c, _, rfl, _⟩
  · exact ⟨_, _, rfl⟩
  · exact ⟨_, _, rfl⟩
theorem NxC.put {w W w' : World} {g n x r k : Nat} {y : Int} {E : Nat → Int × Int} {V : Nat → Value} {v' : Value} (A : NxW w g n x y (edgesTo E k) V r W) (hx : x < n) (hE : (x : Int) = (E k).1 ∧ (E k).2 = y)
    (ho : w'.ownsRow (g + 1) 3 1 v' ((edgesTo E k x).length + 1) ((edgesTo E k x).map (Value.int .i64) ++ [.int .i64 y])) (hg : W.grownBy w' (V x).ownBlock) (hat : v'.ownBlock = (V x).ownBlock ∨ v'.ownBlock = some W.heap.size) :
    NxC w g n (edgesTo E (k + 1)) (fun i => if i = x then v' else V i) (w'.setCell ⟨g, x, none⟩ v') := by
  obtain ⟨Q, _, _, hb⟩ := A.grown hx hg
  have e1 : ∀ i : Nat, edgesTo E (k + 1) i = if i = x then edgesTo E k i ++ [y] else edgesTo E k i := by
    intro i
    unfold edgesTo
    rw [List.range_succ, List.filter_append, List.map_append]
    by_cases h : i = x
    · subst h
      rw [if_pos rfl, List.filter_cons, if_pos (by simp [← hE.1])]
      simp [hE.2]
    · rw [if_neg h, List.filter_cons, if_neg (by simp only [decide_eq_true_eq, ← hE.1]; omega)]
      simp
  refine ⟨Q.set x v', fun i hi => ?_, fun i j hi hj hij => ?_, hb.setCell A.c.hb _, A.c.hb⟩
  · rw [e1]
    by_cases h : i = x
    · subst h
      rw [if_pos rfl, if_pos rfl, List.length_append, List.length_singleton, List.map_append]
      exact ownsRow_setCell_below ho (by show g < g + 1; omega) _
    · rw [if_neg h, if_neg h]
      exact ownsRow_setCell_below ((A.c.own i hi).kept hg (A.c.sep i x hi hx h)) (by show g < g + 1; omega) _
  · have new : ∀ i, i < n → (V i).ownBlock ≠ some W.heap.size := fun i hi e => by have := ((A.c.own i hi).lt _ e).2; omega
    by_cases h : i = x
    · subst h
      rw [if_pos rfl, if_neg (Ne.symm hij)]
      rcases hat with h | h
      · rw [h]; exact A.c.sep i j hi hj hij
      · rw [h]; exact .inr fun e => new j hj e.symm
    · rw [if_neg h]
      by_cases h2 : j = x
      · subst h2
        rw [if_pos rfl]
        rcases hat with h | h
        · rw [h]; exact A.c.sep i j hi hj hij
        · rw [h]; exact .inr (new i hi)
      · rw [if_neg h2]; exact A.c.sep i j hi hj hij
theorem grow_trans {a b c : World} {r : Option Nat} (h : a.grownBy b r) (k : b.grownBy c r) : a.grownBy c r := ⟨k.os.trans h.os, k.tape.trans h.tape, k.output.trans h.output, Nat.le_trans h.size k.size, fun i hi hn => (k.block i (Nat.lt_of_lt_of_le hi h.size) hn).trans (h.block i hi hn)⟩
theorem NxC.sorted {w wr w1 w2 : World} {g n k : Nat} {L : Nat → List Int} {V : Nat → Value} {p : Option Addr} {c : Nat} {l1 l2 : List Int} (A : NxC w g n L V wr) (hk : k < n)
    (h1 : w1.ownsRow (g + 1) 3 1 (V k) (L k).length (l1.map (Value.int .i64))) (g1 : wr.grownBy w1 (V k).ownBlock)
    (h2 : w2.ownsRow (g + 1) 3 1 (.slice p l2.length c) l2.length (l2.map (Value.int .i64))) (g2 : w1.grownBy w2 (V k).ownBlock) (hb : (Value.slice p l2.length c).ownBlock = (V k).ownBlock) :
    w2.rowIs g 23 n V ∧ NxC w g n (fun i => if i = k then l2 else L i) (fun i => if i = k then .slice p l2.length c else V i) (w2.setCell ⟨g, k, none⟩ (.slice p l2.length c)) := by
  have gg := grow_trans g1 g2
  have hl : ∀ j, (V k).ownBlock = some j → g + 1 ≤ j ∧ j < wr.heap.size := (A.own k hk).lt
  have hgl : g < wr.heap.size := A.row.lt
  have hne : some g ≠ (V k).ownBlock := fun e => by have := (hl g e.symm).1; omega
  have Q := A.row.of_block (gg.block g hgl hne)
  refine ⟨Q, Q.set k _, fun i hi => ?_, fun i j hi hj hij => ?_, (A.bel.grown gg A.bel.size (fun j hj => by have := (hl j hj).1; have := A.hb; omega)).setCell A.hb _, A.hb⟩
  · by_cases h : i = k
    · subst h
      rw [if_pos rfl, if_pos rfl]
      exact ownsRow_setCell_below h2 (by show g < g + 1; omega) _
    · rw [if_neg h, if_neg h]
      exact ownsRow_setCell_below ((A.own i hi).kept gg (A.sep i k hi hk h)) (by show g < g + 1; omega) _
  · by_cases h : i = k
    · subst h
      rw [if_pos rfl, if_neg (Ne.symm hij), hb]
      exact A.sep i j hi hj hij
    · rw [if_neg h]
      by_cases h2 : j = k
      · subst h2
        rw [if_pos rfl, hb]; exact A.sep i j hi hj hij
      · rw [if_neg h2]; exact A.sep i j hi hj hij
def toList (E : Nat → Int × Int) (m i : Nat) : List Int := compact (Go.Abs.sortI (edgesTo E m i))
def mixL (E : Nat → Int × Int) (m k i : Nat) : List Int := if i < k then toList E m i else edgesTo E m i
theorem mixL_next (E : Nat → Int × Int) (m k : Nat) : (fun i => if i = k then toList E m k else mixL E m k i) = mixL E m (k + 1) := by
  funext i
  unfold mixL
  by_cases h : i = k
  · subst h; rw [if_pos rfl, if_pos (by omega)]
  · rw [if_neg h]
    by_cases h2 : i < k
    · rw [if_pos h2, if_pos (by omega)]
    · rw [if_neg h2, if_neg (by omega)]
theorem next51 (n m b o c : Nat) (E : Nat → Int × Int) (p0 : Option Addr) (w : World) (hn : n ≤ 100000) (hm : m ≤ 100000)
    (I : Aside ((m ≠ 0 → p0 = some ⟨b, o, none⟩) ∧ (∀ k, k < m → 0 ≤ (E k).1 ∧ (E k).1 < n) ∧
      (∀ k, k < m → ∀ w', Below w.heap.size w w' → w'.cell? ⟨b, o + k * 2, none⟩ = some (.int .i64 (E k).1) ∧ w'.cell? ⟨b, o + k * 2 + 1, none⟩ = some (.int .i64 (E k).2)))) :
    Calls Try.prog 51 #[.int .i64 n, .slice p0 m c] w fun e w' => ∃ g V, e = .returned (.slice (some ⟨g, 0, none⟩) n n) ∧ NxC w g n (toList E m) V w' := by
  obtain ⟨i0, hi, hz0, hz1, hz2⟩ := info_parts (P := Try.prog) (e := 3) (z := .int .i64 0) (size := 1) (bytes := 8) (by kernel_rfl)
  have hmk := run_make_row' (P := Try.prog) 68 23 (.slice none 0 0) 24 Try.underlying68 (by kernel_rfl) rfl .i64 .i64 n (by omega) (by omega) w
  go_enter Try.func51, Try.ntmps51
  go_wp2
  clear hmk
  go_loopg [14] m (fun g i wr => ∃ k V, k ≤ m ∧ g = m - k ∧ i = .int .i64 (k : Nat) ∧ NxC w w.heap.size n (edgesTo E k) V wr)
  case atStart => exact ⟨0, _, Nat.zero_le _, rfl, rfl, NxC.start w n E⟩
  case round =>
    obtain ⟨k, V, hk, rfl, rfl, A⟩ := hrel
    by_cases hlt : k < m
    · have hlt' : (k : Int) < m := by omega
      obtain rfl := I.out.1 (by omega)
      obtain ⟨hx0, hxn⟩ := I.out.2.1 k hlt
      obtain ⟨hc1, hc2⟩ := I.out.2.2 k hlt wr A.bel
      obtain ⟨x, hx⟩ : ∃ x : Nat, (x : Int) = (E k).1 := ⟨(E k).1.toNat, by omega⟩
      obtain ⟨y, hy⟩ : ∃ y, (E k).2 = y := ⟨_, rfl⟩
      rw [← hx] at hc1 hxn
      rw [hy] at hc2
      have hxn' : x < n := by omega
      have hV := A.row.cell hxn'
      have X : Aside ((x : Int) = (E k).1 ∧ (E k).2 = y) := ⟨hx, hy⟩
      clear hx hy hx0
      go_wp2
      have N := A.edge (x := x) (y := y)
      obtain ⟨W, hW⟩ : ∃ W, W = wr.alloc (.cells #[.int .i64 (x : Int), .int .i64 y] 59) := ⟨_, rfl⟩
      obtain ⟨r, hr⟩ : ∃ r, r = wr.heap.size := ⟨_, rfl⟩
      rw [← hW, ← hr] at N
      rw [← hW, ← hr]
      clear hW hr
      have f0 := N.e0
      have f1 := N.e1
      have fg := N.c.row.cell hxn'
      have B : Aside ((edgesTo E k x).length + 1 ≤ maxLen ∧ ((edgesTo E k x).length + 1) * 8 ≤ 140737488355328) := by
        have : (edgesTo E k x).length ≤ k := by unfold edgesTo; rw [List.length_map]; exact Nat.le_trans (List.length_filter_le _ _) (by simp)
        exact ⟨by unfold maxLen; omega, by omega⟩
      have M := N.alloc (.cells #[.int .i64 y] 3)
      have k0 := M.e0
      have k1 := M.e1
      have kg := M.c.row.cell hxn'
      have NN := aside0 N
      have MM := aside0 M
      have hbs : Aside (w.heap.size + 1 ≤ (W.alloc (.cells #[.int .i64 y] 3)).heap.size) := M.c.row.lt
      clear N M A hV
      go_region_law (refine step_append_own rfl (.tmp 25) (.tmp 28) 23 rfl (w.heap.size + 1) 3 i0 (.int .i64 0) 1 8 Try.underlying23 hi hz0 hz1 hz2 rfl (by decide) (V x) (edgesTo E k x).length ((edgesTo E k x).map (Value.int .i64)) (by simp [Act.eval, Act.put]) (MM.out.c.own x hxn') ⟨W.heap.size, 0, none⟩ 1 1 [.int .i64 y] (by simp [Act.eval, Act.put]) rfl (cell_one_new _ _ _) (by intro u hu; rw [List.mem_singleton.1 hu]; rfl) B.out.1 B.out.2 hbs.out ?_; intro v' w' hown hgrow hat; (obtain ⟨p', c', rfl⟩ := own_form hown); have Q := NxW.grown MM.out hxn' (grown_drew hgrow); have qg := Q.1.cell hxn'; have qf := Q.1.frozen x; have q0 := Q.2.1; have q1 := Q.2.2.1; have R := aside0 (And.intro hown (And.intro (grown_drew hgrow) hat)); clear hown hgrow hat Q)
      all_goals
        have wk : IntKind.i64.wrap ((k : Int) + 1) = ((k + 1 : Nat) : Int) := by rw [Go.Abs.wrap_in (by omega) (by omega)]; omega
        have RR := aside0 (NxC.put MM.out hxn' X.out R.out.1 R.out.2.1 R.out.2.2)
        clear qg qf q0 q1 f0 f1 fg k0 k1 kg NN MM hbs R B
        go_wp2
        go_roundg (m - (k + 1))
        case rel => exact ⟨k + 1, _, hlt, rfl, by go_num, RR.out⟩
        case measure => omega
    · obtain rfl : k = m := by omega
      have A0 : NxC w w.heap.size n (mixL E k 0) V wr := by
        have e : mixL E k 0 = edgesTo E k := by funext i; exact if_neg (by omega)
        rw [e]; exact A
      clear A
      go_wp2
      go_loopg [34] n (fun g i wr => ∃ j V, j ≤ n ∧ g = n - j ∧ i = .int .i64 (j : Nat) ∧ NxC w w.heap.size n (mixL E k j) V wr)
      case atStart => exact ⟨0, _, Nat.zero_le _, rfl, rfl, A0⟩
      case round =>
        obtain ⟨j, V, hj, rfl, rfl, A⟩ := hrel
        by_cases hlt : j < n
        · have hlt' : (j : Int) < n := by omega
          have hV := A.row.cell hlt
          have hll : (mixL E k j j).length ≤ 100000 := by
            unfold mixL edgesTo
            rw [if_neg (by omega), List.length_map]
            exact Nat.le_trans (List.length_filter_le _ _) (by simpa using hm)
          have c66 := sort66 (w.heap.size + 1) (V j) (mixL E k j j) wr (A.own j hlt) (by omega)
          have AA := aside0 A
          clear A
          go_wp2_with (first
            | (go_at_call 67; refine c67.mono ?_; (rintro e w2 ⟨p, c2, rfl, hb2, ho2, hg2⟩; have R := aside0 (NxC.sorted (l1 := Go.Abs.sortI (mixL E k j j)) AA.out hlt K1.out.1 K1.out.2 ho2 hg2 hb2); have qg := R.out.1.cell hlt; have qf := R.out.1.frozen j; clear c67 hb2 ho2 hg2))
            | (go_at_call 66; refine c66.mono ?_; (rintro e w1 ⟨rfl, ho1, hg1⟩; have K1 := aside0 (And.intro ho1 hg1); have c67 := compact67 (w.heap.size + 1) (V j) (Go.Abs.sortI (mixL E k j j)) w1 (by have e := List.length_mergeSort (le := fun x y => decide (x ≤ y)) (mixL E k j j); rw [show (Go.Abs.sortI (mixL E k j j)).length = (mixL E k j j).length from e]; exact ho1); clear c66 ho1 hg1)))
          have wj : IntKind.i64.wrap ((j : Int) + 1) = ((j + 1 : Nat) : Int) := by rw [Go.Abs.wrap_in (by omega) (by omega)]; omega
          have R2 : NxC w w.heap.size n (mixL E k (j + 1)) (fun i => if i = j then .slice p (compact (Go.Abs.sortI (mixL E k j j))).length c2 else V i) (w2.setCell ⟨w.heap.size, j, none⟩ (.slice p (compact (Go.Abs.sortI (mixL E k j j))).length c2)) := by
            have e : (fun i => if i = j then compact (Go.Abs.sortI (mixL E k j j)) else mixL E k j i) = mixL E k (j + 1) := by
              rw [← mixL_next]
              funext i
              have e2 : mixL E k j j = edgesTo E k j := if_neg (by omega)
              rw [e2]; rfl
            rw [← e]; exact R.out.2
          have R3 := aside0 R2
          clear R R2 qg qf AA K1
          go_roundg (n - (j + 1))
          case rel => exact ⟨j + 1, _, hlt, rfl, by go_num, R3.out⟩
          case measure => omega
        · obtain rfl : j = n := by omega
          have A1 : NxC w w.heap.size j (toList E k) V wr := ⟨A.row, fun i hi => by have h := A.own i hi; unfold mixL at h; rwa [if_pos hi] at h, A.sep, A.bel, A.hb⟩
          have A2 := aside0 A1
          clear A A1
          go_wp2
          go_ret
          exact ⟨w.heap.size, V, rfl, A2.out⟩
end Go.Proofs


set_option maxRecDepth 100000
set_option maxHeartbeats 4000000
namespace Go.Abs
open Go.Proofs Go.RowKit
def encE (p : Int × Int) : List C := [.int .i64 p.1, .int .i64 p.2]
def eds (l : List (Int × Int)) : List (List C) := l.map encE
@[simp] theorem eds_len (l : List (Int × Int)) : (eds l).length = l.length := by simp [eds]
theorem eds_at {l : List (Int × Int)} {i : Nat} (h : i < l.length) : (eds l).getD i [] = [.int .i64 l[i].1, .int .i64 l[i].2] := by simp [eds, encE, h]
@[simp] theorem normRow_encE (p : Int × Int) : C.normRow (encE p) = encE p := rfl
@[simp] theorem normRows_eds (l : List (Int × Int)) : C.normRows (eds l) = eds l := normRows_eq (fun _ => rfl) l
theorem eds_snoc (l : List (Int × Int)) (a b : Int) : eds l ++ [[.int .i64 a, .int .i64 b]] = eds (l ++ [(a, b)]) := by simp [eds, encE]
theorem plain_eds (l : List (Int × Int)) : Plain 2 (eds l) := by
  refine ⟨by decide, fun r hr => ?_, fun r hr c hc => ?_⟩ <;> obtain ⟨s, _, rfl⟩ := List.mem_map.1 hr
  · rfl
  · simp [encE] at hc; rcases hc with rfl | rfl <;> rfl
def outs (l : List (Int × Int)) (i : Int) : List Int := Lib.compact (sortI ((l.filter fun p => decide (p.1 = i)).map (·.2)))
def nextG (n : Nat) (l : List (Int × Int)) : List (List Int) := (List.range n).map fun (i : Nat) => outs l (i : Int)
theorem nextG_len (n : Nat) (l : List (Int × Int)) : (nextG n l).length = n := by simp [nextG]
theorem toList_outs (l : List (Int × Int)) (i : Nat) : toList (fun k => l.getD k (0, 0)) l.length i = outs l i := by
  unfold toList outs edgesTo
  congr 2
  have : ∀ (l : List (Int × Int)), ((List.range l.length).filter fun k => decide ((l.getD k (0, 0)).1 = (i : Int))).map (fun k => (l.getD k (0, 0)).2) = (l.filter fun p => decide (p.1 = (i : Int))).map (·.2) := by
    intro l
    have e : l = (List.range l.length).map fun k => l.getD k (0, 0) := by
      apply List.ext_getElem
      · simp
      · intro k h1 h2; simp [List.getD, h1]
    conv => rhs; rw [e]
    rw [List.filter_map, List.map_map]
    rfl
  exact this l
theorem g51 (n : Nat) (l : List (Int × Int)) (hn : n ≤ 100000) (hl : l.length ≤ 100000) (hr : ∀ p ∈ l, 0 ≤ p.1 ∧ p.1 < n) :
    Spec Try.prog 51 [.int .i64 n, lst 2 (eds l)] (fun r => r = .k (.newl 23 1 none (ill (nextG n l)))) := by
  refine ⟨callable_at (by kernel_rfl), fun w Z vs hG hz ha => ?_⟩
  obtain ⟨vl⟩ := vs
  match vl, ha with
  | [], ha => exact absurd ha.1 (by simp)
  | [_], ha => exact absurd ha.1 (by simp)
  | _ :: _ :: _ :: _, ha => exact absurd ha.1 (by simp)
  | [vi, v], ha =>
    have hvi : vi = .int .i64 n := prep_int (ha.2 0 _ vi rfl rfl).2.2
    subst hvi
    obtain ⟨p, cap, rfl, q, m⟩ := (plain_eds l).slice (ha.2 1 _ v rfl rfl).2.2
    rw [eds_len] at *
    have key : ∀ b o, (l.length ≠ 0 → p = some ⟨b, o, none⟩ ∧ b < w.heap.size) → (∀ j u, (cellsC (eds l))[j]? = some u → w.cell? ⟨b, o + j, none⟩ = some u) →
        Calls Try.prog 51 #[.int .i64 n, .slice p l.length cap] w fun e w' => ∃ g V, e = .returned (.slice (some ⟨g, 0, none⟩) n n) ∧ NxC w g n (toList (fun k => l.getD k (0, 0)) l.length) V w' := by
      intro b o hp hc
      refine next51 n l.length b o cap (fun k => l.getD k (0, 0)) p w hn hl ⟨fun h => (hp h).1, fun k hk => ?_, fun k hk w' hb => ?_⟩
      · have : l.getD k (0, 0) = l[k] := by simp [List.getD, hk]
        simp only [this]
        exact hr _ (List.getElem_mem hk)
      · have hb0 := (hp (by omega)).2
        have e : ∀ j, (j = 0 ∨ j = 1) → ∀ u, (encE l[k])[j]? = some u → (cellsC (eds l))[k * 2 + j]? = some (valC u) := fun j hj u hu => ((plain_eds l).at (r := encE l[k]) (by simp [eds, hk]) hu).1
        have hgd : l.getD k (0, 0) = l[k] := by simp [List.getD, hk]
        simp only [hgd]
        refine ⟨?_, ?_⟩
        · rw [hb.cell (p := ⟨b, o + k * 2, none⟩) hb0]
          exact hc _ _ (e 0 (.inl rfl) _ rfl)
        · rw [hb.cell (p := ⟨b, o + k * 2 + 1, none⟩) hb0]
          have := hc _ _ (e 1 (.inr rfl) _ rfl)
          rwa [← Nat.add_assoc] at this
    have fin : Calls Try.prog 51 #[.int .i64 n, .slice p l.length cap] w fun e w' => ∃ g V, e = .returned (.slice (some ⟨g, 0, none⟩) n n) ∧ NxC w g n (toList (fun k => l.getD k (0, 0)) l.length) V w' := by
      by_cases h0 : l.length = 0
      · refine key 0 0 (fun h => absurd h0 h) (fun j u hu => ?_)
        have : l = [] := List.eq_nil_of_length_eq_zero h0
        subst this
        simp [eds, cellsC] at hu
      · obtain ⟨b, o, rfl, hc⟩ := q (by omega)
        refine key b o (fun _ => ⟨rfl, ?_⟩) hc
        have hpos : 0 < l.length := by omega
        have h1 := hc _ _ ((plain_eds l).at (i := 0) (j := 0) (r := encE l[0]) (by simp [eds, hpos]) rfl).1
        unfold World.cell? at h1
        cases hh : w.heap[b]? with
        | none => rw [hh] at h1; simp at h1
        | some ob => exact (Array.getElem?_eq_some_iff.1 hh).1
    refine fin.mono ?_
    rintro e w' ⟨g, V, rfl, A⟩
    have hlen := nextG_len n l
    refine ⟨_, _, rfl, rfl, fun τ => rfl, ?_⟩
    have := rrep_ill (Z := Z) (e := 23) (g := g) (ls := nextG n l) (V := V) hG A.bel A.hb (by rw [hlen]; unfold maxLen; omega) (by rw [hlen]; exact A.row) (fun i hi => by
      rw [hlen] at hi
      have e : (nextG n l).getD i [] = outs l i := by simp [nextG, hi]
      rw [e, ← toList_outs]
      exact A.own i hi)
    rwa [hlen] at this
end Go.Abs

