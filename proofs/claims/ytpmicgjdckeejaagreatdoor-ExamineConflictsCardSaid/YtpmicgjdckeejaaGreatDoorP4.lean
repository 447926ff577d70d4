/- A part of the proof; the last text states what is proved. -/
import Derived.Test.YtpmicgjdckeejaaGreatDoorP3
import Derived.Test.YtpmicgjdckeejaaGreatDoorProg
import Derived.IntWalk
import Derived.Shelf.GgClosure.StringsIndexFuncTop
import Derived.Lib.AtoiAll
import Derived.Lib.ItoaNum
import Derived.Deep.OwnRows
import Derived.WalkKit
set_option linter.unusedVariables false
set_option linter.unusedSimpArgs false
set_option maxRecDepth 100000
namespace Go.Abs
open Go.Proofs
abbrev LA:=List AI
theorem uu {a b:AQ} (h:a=b) (P ts os Q):awl P a Q ts os=awl P b Q ts os:=h▸rfl
theorem vv {α:Type} {a b:α} (h:a=b):a=b:=h
def f92r1:LA:=[.mk none (.mov 3 (.t 0)),.mk none (.bin 4 .neq (.t 3) (.v (.k (.c (.str []))))),.mk none (.mov 5 (.t 4)),.mk (some (5,true)) (.mov 6 (.t 0)),.mk (some (5,true)) (.sidx 7 (.t 6) (.v (.k (.c (.int .i64 0))))),.mk (some (5,true)) (.call (some 8) 125 [(.t 7)]),.mk none (.pick 9 (.t 5) (.t 8) (.v (.k (.c (.bool false))))),.mk none (.mov 10 (.t 9)),.mk (some (10,true)) (.mov 11 (.t 0)),.mk (some (10,true)) (.lenS 12 (.t 11)),.mk (some (10,true)) (.bin 13 .leq (.t 12) (.v (.k (.c (.int .i64 20))))),.mk none (.pick 14 (.t 10) (.t 13) (.v (.k (.c (.bool false))))),.mk none (.mov 15 (.t 14)),.mk (some (15,true)) (.mov 16 (.t 0)),.mk (some (15,true)) (.call (some 17) 126 [(.t 16),(.v (.k (.c (.fn 127 []))))]),.mk (some (15,true)) (.mov 18 (.t 0)),.mk (some (15,true)) (.lenS 19 (.t 18)),.mk (some (15,true)) (.bin 20 .eql (.t 17) (.t 19)),.mk none (.pick 21 (.t 15) (.t 20) (.v (.k (.c (.bool false))))),.mk none (.mov 2 (.t 21))]
def f92b2:AQ:=(.seq (.region f92r1) .ret)
def f92r3:LA:=[.mk none (.mov 2 (.v (.k (.c (.bool false)))))]
def f92b4:AQ:=(.seq (.region f92r3) f92b2)
def f92:AQ:=f92b4
theorem hf92:zI Tryz.prog 92=some ⟨22,f92.erase,[(RX.t 2)]⟩:=by kernel_rfl
theorem okf92:f92.ok=true:=by kernel_rfl
def f125r1:LA:=[.mk none (.mov 3 (.t 0)),.mk none (.bin 4 .geq (.t 3) (.v (.k (.c (.int .u8 97))))),.mk none (.mov 5 (.t 4)),.mk (some (5,true)) (.mov 6 (.t 0)),.mk (some (5,true)) (.bin 7 .leq (.t 6) (.v (.k (.c (.int .u8 122))))),.mk none (.pick 8 (.t 5) (.t 7) (.v (.k (.c (.bool false))))),.mk none (.mov 9 (.t 8)),.mk (some (9,false)) (.mov 10 (.t 0)),.mk (some (9,false)) (.bin 11 .geq (.t 10) (.v (.k (.c (.int .u8 65))))),.mk (some (9,false)) (.mov 12 (.t 11)),.mk (some (12,true)) (.mov 13 (.t 0)),.mk (some (12,true)) (.bin 14 .leq (.t 13) (.v (.k (.c (.int .u8 90))))),.mk (some (9,false)) (.pick 15 (.t 12) (.t 14) (.v (.k (.c (.bool false))))),.mk none (.pick 16 (.t 9) (.v (.k (.c (.bool true)))) (.t 15)),.mk none (.mov 2 (.t 16))]
def f125b2:AQ:=(.seq (.region f125r1) .ret)
def f125r3:LA:=[.mk none (.mov 2 (.v (.k (.c (.bool false)))))]
def f125b4:AQ:=(.seq (.region f125r3) f125b2)
def f125:AQ:=f125b4
theorem hf125:zI Tryz.prog 125=some ⟨17,f125.erase,[(RX.t 2)]⟩:=by kernel_rfl
theorem okf125:f125.ok=true:=by kernel_rfl
def f126r1:LA:=[.mk none (.mov 19 (.t 5)),.mk none (.mov 4 (.t 19))]
def f126b2:AQ:=(.seq (.region f126r1) .ret)
def f126r3:LA:=[.mk none (.mov 17 (.t 5)),.mk none (.bin 18 .add (.t 17) (.v (.k (.c (.int .i64 1))))),.mk none (.mov 5 (.t 18))]
def f126b4:AQ:=(.block 1 (.region f126r3))
def f126b5:AQ:=(.cond (.t 16) .skip (.exit 0))
def f126r6:LA:=[.mk none (.mov 6 (.t 5)),.mk none (.mov 7 (.t 0)),.mk none (.lenS 8 (.t 7)),.mk none (.bin 9 .lss (.t 6) (.t 8)),.mk none (.mov 10 (.t 9)),.mk (some (10,true)) (.mov 11 (.t 1)),.mk (some (10,true)) (.mov 12 (.t 0)),.mk (some (10,true)) (.mov 13 (.t 5)),.mk (some (10,true)) (.sidx 14 (.t 12) (.t 13)),.mk (some (10,true)) (.callv (some 15) (.t 11) [(.t 14)]),.mk none (.pick 16 (.t 10) (.t 15) (.v (.k (.c (.bool false)))))]
def f126b7:AQ:=(.seq (.region f126r6) f126b5)
def f126b8:AQ:=(.seq f126b7 f126b4)
def f126l9:AQ:=.loop [0,1,5] [] f126b8
def f126b10:AQ:=(.block 0 f126l9)
def f126b11:AQ:=(.seq f126b10 f126b2)
def f126r12:LA:=[.mk none (.mov 5 (.v (.k (.c (.int .i64 0)))))]
def f126b13:AQ:=(.seq (.region f126r12) f126b11)
def f126r14:LA:=[.mk none (.mov 4 (.v (.k (.c (.int .i64 0)))))]
def f126b15:AQ:=(.seq (.region f126r14) f126b13)
def f126:AQ:=f126b15
theorem hf126:zI Tryz.prog 126=some ⟨20,f126.erase,[(RX.t 4)]⟩:=by kernel_rfl
theorem okf126:f126.ok=true:=by kernel_rfl
def f127r1:LA:=[.mk none (.mov 3 (.t 0)),.mk none (.call (some 4) 125 [(.t 3)]),.mk none (.mov 5 (.t 4)),.mk (some (5,false)) (.mov 6 (.t 0)),.mk (some (5,false)) (.call (some 7) 160 [(.t 6)]),.mk none (.pick 8 (.t 5) (.v (.k (.c (.bool true)))) (.t 7)),.mk none (.mov 9 (.t 8)),.mk (some (9,false)) (.mov 10 (.t 0)),.mk (some (9,false)) (.bin 11 .eql (.t 10) (.v (.k (.c (.int .u8 95))))),.mk none (.pick 12 (.t 9) (.v (.k (.c (.bool true)))) (.t 11)),.mk none (.mov 2 (.t 12))]
def f127b2:AQ:=(.seq (.region f127r1) .ret)
def f127r3:LA:=[.mk none (.mov 2 (.v (.k (.c (.bool false)))))]
def f127b4:AQ:=(.seq (.region f127r3) f127b2)
def f127:AQ:=f127b4
theorem hf127:zI Tryz.prog 127=some ⟨13,f127.erase,[(RX.t 2)]⟩:=by kernel_rfl
theorem okf127:f127.ok=true:=by kernel_rfl
def f160r1:LA:=[.mk none (.mov 3 (.t 0)),.mk none (.bin 4 .geq (.t 3) (.v (.k (.c (.int .u8 48))))),.mk none (.mov 5 (.t 4)),.mk (some (5,true)) (.mov 6 (.t 0)),.mk (some (5,true)) (.bin 7 .leq (.t 6) (.v (.k (.c (.int .u8 57))))),.mk none (.pick 8 (.t 5) (.t 7) (.v (.k (.c (.bool false))))),.mk none (.mov 2 (.t 8))]
def f160b2:AQ:=(.seq (.region f160r1) .ret)
def f160r3:LA:=[.mk none (.mov 2 (.v (.k (.c (.bool false)))))]
def f160b4:AQ:=(.seq (.region f160r3) f160b2)
def f160:AQ:=f160b4
theorem hf160:zI Tryz.prog 160=some ⟨9,f160.erase,[(RX.t 2)]⟩:=by kernel_rfl
theorem okf160:f160.ok=true:=by kernel_rfl
def f59r1:LA:=[.mk none (.mov 3 (.t 0)),.mk none (.bin 4 .neq (.t 3) (.v (.k (.c (.str []))))),.mk none (.mov 5 (.t 4)),.mk (some (5,true)) (.mov 6 (.t 0)),.mk (some (5,true)) (.lenS 7 (.t 6)),.mk (some (5,true)) (.bin 8 .leq (.t 7) (.v (.k (.c (.int .i64 20))))),.mk none (.pick 9 (.t 5) (.t 8) (.v (.k (.c (.bool false))))),.mk none (.mov 10 (.t 9)),.mk (some (10,true)) (.mov 11 (.t 0)),.mk (some (10,true)) (.call (some 12) 97 [(.t 11),(.v (.k (.c (.fn 98 []))))]),.mk (some (10,true)) (.bin 13 .lss (.t 12) (.v (.k (.c (.int .i64 0))))),.mk none (.pick 14 (.t 10) (.t 13) (.v (.k (.c (.bool false))))),.mk none (.mov 2 (.t 14))]
def f59b2:AQ:=(.seq (.region f59r1) .ret)
def f59r3:LA:=[.mk none (.mov 2 (.v (.k (.c (.bool false)))))]
def f59b4:AQ:=(.seq (.region f59r3) f59b2)
def f59:AQ:=f59b4
theorem hf59:zI Tryz.prog 59=some ⟨15,f59.erase,[(RX.t 2)]⟩:=by kernel_rfl
theorem okf59:f59.ok=true:=by kernel_rfl
def f95r1:LA:=[.mk none (.mov 2 (.v (.k (.c (.int .i64 0)))))]
def f95b2:AQ:=(.seq (.region f95r1) .ret)
def f95r3:LA:=[.mk none (.bin 31 .add (.t 20) (.v (.k (.c (.int .i64 1))))),.mk none (.mov 20 (.t 31))]
def f95r4:LA:=[.mk none (.mov 2 (.v (.k (.c (.int .i64 5)))))]
def f95b5:AQ:=(.seq (.region f95r4) .ret)
def f95b6:AQ:=(.cond (.t 30) f95b5 .skip)
def f95r7:LA:=[.mk none (.mov 23 (.t 3)),.mk none (.mov 24 (.t 4)),.mk none (.slice 25 1 (.t 23) none (some (.t 24))),.mk none (.mov 26 (.t 3)),.mk none (.mov 27 (.t 4)),.mk none (.iaddr 28 1 (.t 26) (.t 27)),.mk none (.load 29 1 false (.t 28)),.mk none (.call (some 30) 130 [(.t 25),(.t 29)])]
def f95b8:AQ:=(.seq (.draw f95r7 [[],[],[0,1],[],[],[3,4],[5],[2,6]]) f95b6)
def f95r9:LA:=[.mk none (.mov 22 (.t 20)),.mk none (.mov 4 (.t 22))]
def f95b10:AQ:=(.seq (.region f95r9) f95b8)
def f95b11:AQ:=(.block 2 f95b10)
def f95b12:AQ:=(.seq f95b11 (.region f95r3))
def f95b13:AQ:=(.cond (.t 21) .skip (.exit 1))
def f95b14:AQ:=(.seq f95b13 f95b12)
def f95r15:LA:=[.mk none (.bin 21 .lss (.t 20) (.t 19))]
def f95b16:AQ:=(.seq (.region f95r15) f95b14)
def f95l17:AQ:=.loop [3,19,20] [] f95b16
def f95b18:AQ:=(.block 1 f95l17)
def f95r19:LA:=[.mk none (.mov 18 (.t 3)),.mk none (.len 19 (.t 18)),.mk none (.mov 20 (.v (.k (.c (.int .i64 0)))))]
def f95b20:AQ:=(.seq (.region f95r19) f95b18)
def f95b21:AQ:=(.seq f95b20 f95b2)
def f95r22:LA:=[.mk none (.mov 2 (.v (.k (.c (.int .i64 6)))))]
def f95b23:AQ:=(.seq (.region f95r22) .ret)
def f95r24:LA:=[.mk none (.mov 2 (.v (.k (.c (.int .i64 4)))))]
def f95b25:AQ:=(.seq (.region f95r24) .ret)
def f95r26:LA:=[.mk none (.mov 2 (.v (.k (.c (.int .i64 2)))))]
def f95b27:AQ:=(.seq (.region f95r26) .ret)
def f95b28:AQ:=(.cond (.t 15) f95b27 .skip)
def f95r29:LA:=[.mk none (.mov 16 (.t 3)),.mk none (.call (some 17) 57 [(.t 16),(.v (.k (.c (.fn 129 []))))]),.mk none (.mov 15 (.t 17))]
def f95b30:AQ:=(.seq (.region f95r29) f95b28)
def f95b31:AQ:=(.cond (.t 11) f95b25 f95b30)
def f95r32:LA:=[.mk none (.mov 12 (.t 3)),.mk none (.len 13 (.t 12)),.mk none (.bin 14 .eql (.t 13) (.v (.k (.c (.int .i64 0))))),.mk none (.mov 11 (.t 14))]
def f95b33:AQ:=(.seq (.region f95r32) f95b31)
def f95b34:AQ:=(.cond (.t 7) f95b23 f95b33)
def f95r35:LA:=[.mk none (.mov 8 (.t 3)),.mk none (.len 9 (.t 8)),.mk none (.bin 10 .gtr (.t 9) (.v (.k (.c (.int .i64 4))))),.mk none (.mov 7 (.t 10))]
def f95b36:AQ:=(.seq (.region f95r35) f95b34)
def f95b37:AQ:=(.block 0 f95b36)
def f95b38:AQ:=(.seq f95b37 f95b21)
def f95r39:LA:=[.mk none (.faddr 5 0 (.t 1)),.mk none (.load 6 1 false (.t 5)),.mk none (.mov 3 (.t 6))]
def f95b40:AQ:=(.seq (.region f95r39) f95b38)
def f95r41:LA:=[.mk none (.box 1 109 (.t 0)),.mk none (.mov 2 (.v (.k (.c (.int .i64 0)))))]
def f95b42:AQ:=(.seq (.region f95r41) (.frz 1 f95b40))
def f95:AQ:=f95b42
theorem hf95:zI Tryz.prog 95=some ⟨32,f95.erase,[(RX.t 2)]⟩:=by kernel_rfl
theorem okf95:f95.ok=true:=by kernel_rfl
def f129r1:LA:=[.mk none (.mov 3 (.t 0)),.mk none (.call (some 4) 59 [(.t 3)]),.mk none (.un 5 .not (.t 4)),.mk none (.mov 2 (.t 5))]
def f129b2:AQ:=(.seq (.region f129r1) .ret)
def f129r3:LA:=[.mk none (.mov 2 (.v (.k (.c (.bool false)))))]
def f129b4:AQ:=(.seq (.region f129r3) f129b2)
def f129:AQ:=f129b4
theorem hf129:zI Tryz.prog 129=some ⟨6,f129.erase,[(RX.t 2)]⟩:=by kernel_rfl
theorem okf129:f129.ok=true:=by kernel_rfl
def f130r1:LA:=[.mk none (.mov 5 (.t 0)),.mk none (.mov 6 (.t 1)),.mk none (.call (some 7) 40 [(.t 5),(.t 6)]),.mk none (.bin 8 .geq (.t 7) (.v (.k (.c (.int .i64 0))))),.mk none (.mov 4 (.t 8))]
def f130b2:AQ:=(.seq (.region f130r1) .ret)
def f130r3:LA:=[.mk none (.mov 4 (.v (.k (.c (.bool false)))))]
def f130b4:AQ:=(.seq (.region f130r3) f130b2)
def f130:AQ:=f130b4
theorem hf130:zI Tryz.prog 130=some ⟨9,f130.erase,[(RX.t 4)]⟩:=by kernel_rfl
theorem okf130:f130.ok=true:=by kernel_rfl
def f96r1:LA:=[.mk none (.mov 4 (.v (.k (.c (.int .i64 (-1))))))]
def f96b2:AQ:=(.seq (.region f96r1) .ret)
def f96r3:LA:=[.mk none (.bin 18 .add (.t 8) (.v (.k (.c (.int .i64 1))))),.mk none (.mov 8 (.t 18))]
def f96r4:LA:=[.mk none (.mov 17 (.t 5)),.mk none (.mov 4 (.t 17))]
def f96b5:AQ:=(.seq (.region f96r4) .ret)
def f96b6:AQ:=(.cond (.t 16) f96b5 .skip)
def f96r7:LA:=[.mk none (.mov 11 (.t 1)),.mk none (.mov 12 (.t 0)),.mk none (.mov 13 (.t 5)),.mk none (.iaddr 14 1 (.t 12) (.t 13)),.mk none (.load 15 1 false (.t 14)),.mk none (.callv (some 16) (.t 11) [(.t 15)])]
def f96b8:AQ:=(.seq (.region f96r7) f96b6)
def f96r9:LA:=[.mk none (.mov 10 (.t 8)),.mk none (.mov 5 (.t 10))]
def f96b10:AQ:=(.seq (.region f96r9) f96b8)
def f96b11:AQ:=(.block 1 f96b10)
def f96b12:AQ:=(.seq f96b11 (.region f96r3))
def f96b13:AQ:=(.cond (.t 9) .skip (.exit 0))
def f96b14:AQ:=(.seq f96b13 f96b12)
def f96r15:LA:=[.mk none (.bin 9 .lss (.t 8) (.t 7))]
def f96b16:AQ:=(.seq (.region f96r15) f96b14)
def f96l17:AQ:=.loop [0,1,7,8] [] f96b16
def f96b18:AQ:=(.block 0 f96l17)
def f96r19:LA:=[.mk none (.mov 6 (.t 0)),.mk none (.len 7 (.t 6)),.mk none (.mov 8 (.v (.k (.c (.int .i64 0)))))]
def f96b20:AQ:=(.seq (.region f96r19) f96b18)
def f96b21:AQ:=(.seq f96b20 f96b2)
def f96r22:LA:=[.mk none (.mov 4 (.v (.k (.c (.int .i64 0)))))]
def f96b23:AQ:=(.seq (.region f96r22) f96b21)
def f96:AQ:=f96b23
theorem hf96:zI Tryz.prog 96=some ⟨19,f96.erase,[(RX.t 4)]⟩:=by kernel_rfl
theorem okf96:f96.ok=true:=by kernel_rfl
def f55r1:LA:=[.mk none (.mov 2 (.v (.k (.c (.int .i64 0)))))]
def f55b2:AQ:=(.seq (.region f55r1) .ret)
def f55r3:LA:=[.mk none (.bin 54 .add (.t 19) (.v (.k (.c (.int .i64 1))))),.mk none (.mov 19 (.t 54))]
def f55r4:LA:=[.mk none (.bin 53 .add (.t 44) (.v (.k (.c (.int .i64 1))))),.mk none (.mov 44 (.t 53))]
def f55r5:LA:=[.mk none (.mov 52 (.t 7)),.mk none (.mov 2 (.t 52))]
def f55b6:AQ:=(.seq (.region f55r5) .ret)
def f55b7:AQ:=(.cond (.t 51) f55b6 .skip)
def f55r8:LA:=[.mk none (.mov 50 (.t 7)),.mk none (.bin 51 .neq (.t 50) (.v (.k (.c (.int .i64 0)))))]
def f55b9:AQ:=(.seq (.region f55r8) f55b7)
def f55r10:LA:=[.mk none (.load 48 1 true (.t 6)),.mk none (.call (some 49) 95 [(.t 48)]),.mk none (.mov 7 (.t 49))]
def f55b11:AQ:=(.seq (.region f55r10) f55b9)
def f55r12:LA:=[.mk none (.iaddr 46 1 (.t 42) (.t 44)),.mk none (.load 47 1 true (.t 46)),.mk none (.alloc 6 109 [(.list 0 (some true) [])]),.mk none (.store 1 (.t 6) (.t 47))]
def f55b13:AQ:=(.seq (.region f55r12) (.frz 6 f55b11))
def f55b14:AQ:=(.block 4 f55b13)
def f55b15:AQ:=(.seq f55b14 (.region f55r4))
def f55b16:AQ:=(.cond (.t 45) .skip (.exit 3))
def f55b17:AQ:=(.seq f55b16 f55b15)
def f55r18:LA:=[.mk none (.bin 45 .lss (.t 44) (.t 43))]
def f55b19:AQ:=(.seq (.region f55r18) f55b17)
def f55l20:AQ:=.loop [1,17,18,19,42,43,44] [1] f55b19
def f55b21:AQ:=(.block 3 f55l20)
def f55r22:LA:=[.mk none (.faddr 41 1 (.t 4)),.mk none (.load 42 1 false (.t 41)),.mk none (.len 43 (.t 42)),.mk none (.mov 44 (.v (.k (.c (.int .i64 0)))))]
def f55b23:AQ:=(.seq (.region f55r22) f55b21)
def f55r24:LA:=[.mk none (.mov 2 (.v (.k (.c (.int .i64 2)))))]
def f55b25:AQ:=(.seq (.region f55r24) .ret)
def f55r26:LA:=[.mk none (.mov 2 (.v (.k (.c (.int .i64 5)))))]
def f55b27:AQ:=(.seq (.region f55r26) .ret)
def f55r28:LA:=[.mk none (.mov 2 (.v (.k (.c (.int .i64 6)))))]
def f55b29:AQ:=(.seq (.region f55r28) .ret)
def f55b30:AQ:=(.cond (.t 36) f55b29 .skip)
def f55r31:LA:=[.mk none (.faddr 37 1 (.t 4)),.mk none (.load 38 1 false (.t 37)),.mk none (.len 39 (.t 38)),.mk none (.bin 40 .gtr (.t 39) (.v (.k (.c (.int .i64 8))))),.mk none (.mov 36 (.t 40))]
def f55b32:AQ:=(.seq (.region f55r31) f55b30)
def f55b33:AQ:=(.cond (.t 29) f55b27 f55b32)
def f55r34:LA:=[.mk none (.faddr 30 1 (.t 1)),.mk none (.load 31 1 false (.t 30)),.mk none (.mov 32 (.t 3)),.mk none (.slice 33 2 (.t 31) none (some (.t 32))),.mk none (.mkfn 34 94 [(.t 4)]),.mk none (.call (some 35) 93 [(.t 33),(.t 34)]),.mk none (.mov 29 (.t 35))]
def f55b35:AQ:=(.seq (.region f55r34) f55b33)
def f55b36:AQ:=(.cond (.t 24) f55b25 f55b35)
def f55r37:LA:=[.mk none (.faddr 25 0 (.t 4)),.mk none (.load 26 1 false (.t 25)),.mk none (.call (some 27) 92 [(.t 26)]),.mk none (.un 28 .not (.t 27)),.mk none (.mov 24 (.t 28))]
def f55b38:AQ:=(.seq (.region f55r37) f55b36)
def f55b39:AQ:=(.block 2 f55b38)
def f55b40:AQ:=(.seq f55b39 f55b23)
def f55r41:LA:=[.mk none (.mov 21 (.t 19)),.mk none (.iaddr 22 2 (.t 17) (.t 19)),.mk none (.load 23 2 true (.t 22)),.mk none (.alloc 4 107 [(.str []),(.list 0 (some true) [])]),.mk none (.mov 3 (.t 21)),.mk none (.store 2 (.t 4) (.t 23))]
def f55b42:AQ:=(.seq (.region f55r41) (.frz 4 f55b40))
def f55b43:AQ:=(.block 1 f55b42)
def f55b44:AQ:=(.seq f55b43 (.region f55r3))
def f55b45:AQ:=(.cond (.t 20) .skip (.exit 0))
def f55b46:AQ:=(.seq f55b45 f55b44)
def f55r47:LA:=[.mk none (.bin 20 .lss (.t 19) (.t 18))]
def f55b48:AQ:=(.seq (.region f55r47) f55b46)
def f55l49:AQ:=.loop [1,17,18,19] [1] f55b48
def f55b50:AQ:=(.block 0 f55l49)
def f55r51:LA:=[.mk none (.faddr 16 1 (.t 1)),.mk none (.load 17 1 false (.t 16)),.mk none (.len 18 (.t 17)),.mk none (.mov 19 (.v (.k (.c (.int .i64 0)))))]
def f55b52:AQ:=(.seq (.region f55r51) f55b50)
def f55b53:AQ:=(.seq f55b52 f55b2)
def f55r54:LA:=[.mk none (.mov 2 (.v (.k (.c (.int .i64 6)))))]
def f55b55:AQ:=(.seq (.region f55r54) .ret)
def f55b56:AQ:=(.cond (.t 15) f55b55 .skip)
def f55r57:LA:=[.mk none (.faddr 12 1 (.t 1)),.mk none (.load 13 1 false (.t 12)),.mk none (.len 14 (.t 13)),.mk none (.bin 15 .gtr (.t 14) (.v (.k (.c (.int .i64 12)))))]
def f55b58:AQ:=(.seq (.region f55r57) f55b56)
def f55b59:AQ:=(.seq f55b58 f55b53)
def f55r60:LA:=[.mk none (.mov 2 (.v (.k (.c (.int .i64 2)))))]
def f55b61:AQ:=(.seq (.region f55r60) .ret)
def f55b62:AQ:=(.cond (.t 11) f55b61 .skip)
def f55r63:LA:=[.mk none (.faddr 8 0 (.t 1)),.mk none (.load 9 1 false (.t 8)),.mk none (.call (some 10) 92 [(.t 9)]),.mk none (.un 11 .not (.t 10))]
def f55b64:AQ:=(.seq (.region f55r63) f55b62)
def f55b65:AQ:=(.seq f55b64 f55b59)
def f55r66:LA:=[.mk none (.box 1 58 (.t 0)),.mk none (.mov 2 (.v (.k (.c (.int .i64 0)))))]
def f55b67:AQ:=(.seq (.region f55r66) (.frz 1 f55b65))
def f55:AQ:=f55b67
theorem hf55:zI Tryz.prog 55=some ⟨55,f55.erase,[(RX.t 2)]⟩:=by kernel_rfl
theorem okf55:f55.ok=true:=by kernel_rfl
def f94r1:LA:=[.mk none (.faddr 4 0 (.t 2)),.mk none (.load 5 1 false (.t 4)),.mk none (.faddr 6 0 (.t 1)),.mk none (.load 7 1 false (.t 6)),.mk none (.bin 8 .eql (.t 5) (.t 7)),.mk none (.mov 3 (.t 8))]
def f94b2:AQ:=(.seq (.region f94r1) .ret)
def f94r3:LA:=[.mk none (.box 2 107 (.t 0)),.mk none (.mov 3 (.v (.k (.c (.bool false)))))]
def f94b4:AQ:=(.seq (.region f94r3) (.frz 2 f94b2))
def f94:AQ:=f94b4
theorem hf94:zI Tryz.prog 94=some ⟨9,f94.erase,[(RX.t 3)]⟩:=by kernel_rfl
theorem okf94:f94.ok=true:=by kernel_rfl
def f93r1:LA:=[.mk none (.mov 5 (.t 0)),.mk none (.mov 6 (.t 1)),.mk none (.call (some 7) 128 [(.t 5),(.t 6)]),.mk none (.bin 8 .geq (.t 7) (.v (.k (.c (.int .i64 0))))),.mk none (.mov 4 (.t 8))]
def f93b2:AQ:=(.seq (.region f93r1) .ret)
def f93r3:LA:=[.mk none (.mov 4 (.v (.k (.c (.bool false)))))]
def f93b4:AQ:=(.seq (.region f93r3) f93b2)
def f93:AQ:=f93b4
theorem hf93:zI Tryz.prog 93=some ⟨9,f93.erase,[(RX.t 4)]⟩:=by kernel_rfl
theorem okf93:f93.ok=true:=by kernel_rfl
def f128r1:LA:=[.mk none (.mov 4 (.v (.k (.c (.int .i64 (-1))))))]
def f128b2:AQ:=(.seq (.region f128r1) .ret)
def f128r3:LA:=[.mk none (.bin 18 .add (.t 8) (.v (.k (.c (.int .i64 1))))),.mk none (.mov 8 (.t 18))]
def f128r4:LA:=[.mk none (.mov 17 (.t 5)),.mk none (.mov 4 (.t 17))]
def f128b5:AQ:=(.seq (.region f128r4) .ret)
def f128b6:AQ:=(.cond (.t 16) f128b5 .skip)
def f128r7:LA:=[.mk none (.mov 11 (.t 1)),.mk none (.mov 12 (.t 0)),.mk none (.mov 13 (.t 5)),.mk none (.iaddr 14 2 (.t 12) (.t 13)),.mk none (.load 15 2 true (.t 14)),.mk none (.callv (some 16) (.t 11) [(.t 15)])]
def f128b8:AQ:=(.seq (.region f128r7) f128b6)
def f128r9:LA:=[.mk none (.mov 10 (.t 8)),.mk none (.mov 5 (.t 10))]
def f128b10:AQ:=(.seq (.region f128r9) f128b8)
def f128b11:AQ:=(.block 1 f128b10)
def f128b12:AQ:=(.seq f128b11 (.region f128r3))
def f128b13:AQ:=(.cond (.t 9) .skip (.exit 0))
def f128b14:AQ:=(.seq f128b13 f128b12)
def f128r15:LA:=[.mk none (.bin 9 .lss (.t 8) (.t 7))]
def f128b16:AQ:=(.seq (.region f128r15) f128b14)
def f128l17:AQ:=.loop [0,1,7,8] [] f128b16
def f128b18:AQ:=(.block 0 f128l17)
def f128r19:LA:=[.mk none (.mov 6 (.t 0)),.mk none (.len 7 (.t 6)),.mk none (.mov 8 (.v (.k (.c (.int .i64 0)))))]
def f128b20:AQ:=(.seq (.region f128r19) f128b18)
def f128b21:AQ:=(.seq f128b20 f128b2)
def f128r22:LA:=[.mk none (.mov 4 (.v (.k (.c (.int .i64 0)))))]
def f128b23:AQ:=(.seq (.region f128r22) f128b21)
def f128:AQ:=f128b23
theorem hf128:zI Tryz.prog 128=some ⟨19,f128.erase,[(RX.t 4)]⟩:=by kernel_rfl
theorem okf128:f128.ok=true:=by kernel_rfl
def f57r1:LA:=[.mk none (.mov 5 (.t 0)),.mk none (.mov 6 (.t 1)),.mk none (.call (some 7) 96 [(.t 5),(.t 6)]),.mk none (.bin 8 .geq (.t 7) (.v (.k (.c (.int .i64 0))))),.mk none (.mov 4 (.t 8))]
def f57b2:AQ:=(.seq (.region f57r1) .ret)
def f57r3:LA:=[.mk none (.mov 4 (.v (.k (.c (.bool false)))))]
def f57b4:AQ:=(.seq (.region f57r3) f57b2)
def f57:AQ:=f57b4
theorem hf57:zI Tryz.prog 57=some ⟨9,f57.erase,[(RX.t 4)]⟩:=by kernel_rfl
theorem okf57:f57.ok=true:=by kernel_rfl
def f61r1:LA:=[.mk none (.mov 19 (.t 3)),.mk none (.mov 2 (.t 19))]
def f61b2:AQ:=(.seq (.region f61r1) .ret)
def f61r3:LA:=[.mk none (.bin 18 .add (.t 9) (.v (.k (.c (.int .i64 1))))),.mk none (.mov 9 (.t 18))]
def f61r4:LA:=[.mk none (.mov 13 (.t 3)),.mk none (.faddr 14 0 (.t 5)),.mk none (.load 15 1 false (.t 14)),.mk none (.len 16 (.t 15)),.mk none (.bin 17 .mul (.t 13) (.t 16)),.mk none (.mov 3 (.t 17))]
def f61r5:LA:=[.mk none (.iaddr 11 1 (.t 7) (.t 9)),.mk none (.load 12 1 true (.t 11)),.mk none (.alloc 5 109 [(.list 0 (some true) [])]),.mk none (.store 1 (.t 5) (.t 12))]
def f61b6:AQ:=(.seq (.region f61r5) (.frz 5 (.region f61r4)))
def f61b7:AQ:=(.block 1 f61b6)
def f61b8:AQ:=(.seq f61b7 (.region f61r3))
def f61b9:AQ:=(.cond (.t 10) .skip (.exit 0))
def f61b10:AQ:=(.seq f61b9 f61b8)
def f61r11:LA:=[.mk none (.bin 10 .lss (.t 9) (.t 8))]
def f61b12:AQ:=(.seq (.region f61r11) f61b10)
def f61l13:AQ:=.loop [3,7,8,9] [] f61b12
def f61b14:AQ:=(.block 0 f61l13)
def f61r15:LA:=[.mk none (.faddr 6 1 (.t 1)),.mk none (.load 7 1 false (.t 6)),.mk none (.len 8 (.t 7)),.mk none (.mov 9 (.v (.k (.c (.int .i64 0)))))]
def f61b16:AQ:=(.seq (.region f61r15) f61b14)
def f61b17:AQ:=(.seq f61b16 f61b2)
def f61r18:LA:=[.mk none (.mov 3 (.v (.k (.c (.int .i64 1)))))]
def f61b19:AQ:=(.seq (.region f61r18) f61b17)
def f61r20:LA:=[.mk none (.box 1 107 (.t 0)),.mk none (.mov 2 (.v (.k (.c (.int .i64 0)))))]
def f61b21:AQ:=(.seq (.region f61r20) (.frz 1 f61b19))
def f61:AQ:=f61b21
theorem hf61:zI Tryz.prog 61=some ⟨20,f61.erase,[(RX.t 2)]⟩:=by kernel_rfl
theorem okf61:f61.ok=true:=by kernel_rfl
def f77r1:LA:=[.mk none (.mov 27 (.t 5)),.mk none (.mov 2 (.t 27)),.mk none (.mov 3 (.v (.k (.c (.int .i64 0)))))]
def f77b2:AQ:=(.seq (.region f77r1) .ret)
def f77r3:LA:=[.mk none (.bin 26 .add (.t 16) (.v (.k (.c (.int .i64 1))))),.mk none (.mov 16 (.t 26))]
def f77r4:LA:=[.mk none (.mov 2 (.v (.k (.c (.int .i64 0))))),.mk none (.mov 3 (.v (.k (.c (.int .i64 6)))))]
def f77b5:AQ:=(.seq (.region f77r4) .ret)
def f77b6:AQ:=(.cond (.t 25) f77b5 .skip)
def f77r7:LA:=[.mk none (.mov 24 (.t 5)),.mk none (.bin 25 .gtr (.t 24) (.v (.k (.c (.int .i64 4096)))))]
def f77b8:AQ:=(.seq (.region f77r7) f77b6)
def f77r9:LA:=[.mk none (.mov 20 (.t 5)),.mk none (.load 21 2 true (.t 7)),.mk none (.call (some 22) 61 [(.t 21)]),.mk none (.bin 23 .mul (.t 20) (.t 22)),.mk none (.mov 5 (.t 23))]
def f77b10:AQ:=(.seq (.region f77r9) f77b8)
def f77r11:LA:=[.mk none (.iaddr 18 2 (.t 14) (.t 16)),.mk none (.load 19 2 true (.t 18)),.mk none (.alloc 7 107 [(.str []),(.list 0 (some true) [])]),.mk none (.store 2 (.t 7) (.t 19))]
def f77b12:AQ:=(.seq (.region f77r11) (.frz 7 f77b10))
def f77b13:AQ:=(.block 1 f77b12)
def f77b14:AQ:=(.seq f77b13 (.region f77r3))
def f77b15:AQ:=(.cond (.t 17) .skip (.exit 0))
def f77b16:AQ:=(.seq f77b15 f77b14)
def f77r17:LA:=[.mk none (.bin 17 .lss (.t 16) (.t 15))]
def f77b18:AQ:=(.seq (.region f77r17) f77b16)
def f77l19:AQ:=.loop [5,14,15,16] [] f77b18
def f77b20:AQ:=(.block 0 f77l19)
def f77r21:LA:=[.mk none (.faddr 13 1 (.t 1)),.mk none (.load 14 1 false (.t 13)),.mk none (.len 15 (.t 14)),.mk none (.mov 16 (.v (.k (.c (.int .i64 0)))))]
def f77b22:AQ:=(.seq (.region f77r21) f77b20)
def f77b23:AQ:=(.seq f77b22 f77b2)
def f77r24:LA:=[.mk none (.mov 5 (.v (.k (.c (.int .i64 1)))))]
def f77b25:AQ:=(.seq (.region f77r24) f77b23)
def f77r26:LA:=[.mk none (.mov 12 (.t 4)),.mk none (.mov 2 (.v (.k (.c (.int .i64 0))))),.mk none (.mov 3 (.t 12))]
def f77b27:AQ:=(.seq (.region f77r26) .ret)
def f77b28:AQ:=(.cond (.t 11) f77b27 .skip)
def f77r29:LA:=[.mk none (.mov 10 (.t 4)),.mk none (.bin 11 .neq (.t 10) (.v (.k (.c (.int .i64 0)))))]
def f77b30:AQ:=(.seq (.region f77r29) f77b28)
def f77r31:LA:=[.mk none (.load 8 2 true (.t 1)),.mk none (.call (some 9) 55 [(.t 8)]),.mk none (.mov 4 (.t 9))]
def f77b32:AQ:=(.seq (.region f77r31) f77b30)
def f77b33:AQ:=(.seq f77b32 f77b25)
def f77r34:LA:=[.mk none (.box 1 58 (.t 0)),.mk none (.mov 2 (.v (.k (.c (.int .i64 0))))),.mk none (.mov 3 (.v (.k (.c (.int .i64 0)))))]
def f77b35:AQ:=(.seq (.region f77r34) (.frz 1 f77b33))
def f77:AQ:=f77b35
theorem hf77:zI Tryz.prog 77=some ⟨28,f77.erase,[(RX.t 2),(RX.t 3)]⟩:=by kernel_rfl
theorem okf77:f77.ok=true:=by kernel_rfl
def f207r1:LA:=[.mk none (.mov 5 (.t 0)),.mk none (.mkfn 6 209 [(.t 3)]),.mk none (.call (some 7) 208 [(.t 5),(.t 6)]),.mk none (.mov 4 (.t 7))]
def f207b2:AQ:=(.seq (.region f207r1) .ret)
def f207r3:LA:=[.mk none (.box 3 9 (.t 1)),.mk none (.mov 4 (.v (.k (.c (.bool false)))))]
def f207b4:AQ:=(.seq (.region f207r3) (.frz 3 f207b2))
def f207:AQ:=f207b4
theorem hf207:zI Tryz.prog 207=some ⟨8,f207.erase,[(RX.t 4)]⟩:=by kernel_rfl
theorem okf207:f207.ok=true:=by kernel_rfl
def f208r1:LA:=[.mk none (.mov 5 (.t 0)),.mk none (.mov 6 (.t 1)),.mk none (.call (some 7) 210 [(.t 5),(.t 6)]),.mk none (.bin 8 .geq (.t 7) (.v (.k (.c (.int .i64 0))))),.mk none (.mov 4 (.t 8))]
def f208b2:AQ:=(.seq (.region f208r1) .ret)
def f208r3:LA:=[.mk none (.mov 4 (.v (.k (.c (.bool false)))))]
def f208b4:AQ:=(.seq (.region f208r3) f208b2)
def f208:AQ:=f208b4
theorem hf208:zI Tryz.prog 208=some ⟨9,f208.erase,[(RX.t 4)]⟩:=by kernel_rfl
theorem okf208:f208.ok=true:=by kernel_rfl
def f209r1:LA:=[.mk none (.faddr 4 0 (.t 2)),.mk none (.load 5 1 false (.t 4)),.mk none (.load 6 1 false (.t 1)),.mk none (.bin 7 .eql (.t 5) (.t 6)),.mk none (.mov 3 (.t 7))]
def f209b2:AQ:=(.seq (.region f209r1) .ret)
def f209r3:LA:=[.mk none (.box 2 53 (.t 0)),.mk none (.mov 3 (.v (.k (.c (.bool false)))))]
def f209b4:AQ:=(.seq (.region f209r3) (.frz 2 f209b2))
def f209:AQ:=f209b4
theorem hf209:zI Tryz.prog 209=some ⟨8,f209.erase,[(RX.t 3)]⟩:=by kernel_rfl
theorem okf209:f209.ok=true:=by kernel_rfl
def f210r1:LA:=[.mk none (.mov 4 (.v (.k (.c (.int .i64 (-1))))))]
def f210b2:AQ:=(.seq (.region f210r1) .ret)
def f210r3:LA:=[.mk none (.bin 18 .add (.t 8) (.v (.k (.c (.int .i64 1))))),.mk none (.mov 8 (.t 18))]
def f210r4:LA:=[.mk none (.mov 17 (.t 5)),.mk none (.mov 4 (.t 17))]
def f210b5:AQ:=(.seq (.region f210r4) .ret)
def f210b6:AQ:=(.cond (.t 16) f210b5 .skip)
def f210r7:LA:=[.mk none (.mov 11 (.t 1)),.mk none (.mov 12 (.t 0)),.mk none (.mov 13 (.t 5)),.mk none (.iaddr 14 3 (.t 12) (.t 13)),.mk none (.load 15 3 true (.t 14)),.mk none (.callv (some 16) (.t 11) [(.t 15)])]
def f210b8:AQ:=(.seq (.region f210r7) f210b6)
def f210r9:LA:=[.mk none (.mov 10 (.t 8)),.mk none (.mov 5 (.t 10))]
def f210b10:AQ:=(.seq (.region f210r9) f210b8)
def f210b11:AQ:=(.block 1 f210b10)
def f210b12:AQ:=(.seq f210b11 (.region f210r3))
def f210b13:AQ:=(.cond (.t 9) .skip (.exit 0))
def f210b14:AQ:=(.seq f210b13 f210b12)
def f210r15:LA:=[.mk none (.bin 9 .lss (.t 8) (.t 7))]
def f210b16:AQ:=(.seq (.region f210r15) f210b14)
def f210l17:AQ:=.loop [0,1,7,8] [] f210b16
def f210b18:AQ:=(.block 0 f210l17)
def f210r19:LA:=[.mk none (.mov 6 (.t 0)),.mk none (.len 7 (.t 6)),.mk none (.mov 8 (.v (.k (.c (.int .i64 0)))))]
def f210b20:AQ:=(.seq (.region f210r19) f210b18)
def f210b21:AQ:=(.seq f210b20 f210b2)
def f210r22:LA:=[.mk none (.mov 4 (.v (.k (.c (.int .i64 0)))))]
def f210b23:AQ:=(.seq (.region f210r22) f210b21)
def f210:AQ:=f210b23
theorem hf210:zI Tryz.prog 210=some ⟨19,f210.erase,[(RX.t 4)]⟩:=by kernel_rfl
theorem okf210:f210.ok=true:=by kernel_rfl
def f40r1:LA:=[.mk none (.mov 4 (.v (.k (.c (.int .i64 (-1))))))]
def f40b2:AQ:=(.seq (.region f40r1) .ret)
def f40r3:LA:=[.mk none (.bin 18 .add (.t 8) (.v (.k (.c (.int .i64 1))))),.mk none (.mov 8 (.t 18))]
def f40r4:LA:=[.mk none (.mov 17 (.t 5)),.mk none (.mov 4 (.t 17))]
def f40b5:AQ:=(.seq (.region f40r4) .ret)
def f40b6:AQ:=(.cond (.t 16) f40b5 .skip)
def f40r7:LA:=[.mk none (.mov 11 (.t 1)),.mk none (.mov 12 (.t 0)),.mk none (.mov 13 (.t 5)),.mk none (.iaddr 14 1 (.t 12) (.t 13)),.mk none (.load 15 1 false (.t 14)),.mk none (.bin 16 .eql (.t 11) (.t 15))]
def f40b8:AQ:=(.seq (.region f40r7) f40b6)
def f40r9:LA:=[.mk none (.mov 10 (.t 8)),.mk none (.mov 5 (.t 10))]
def f40b10:AQ:=(.seq (.region f40r9) f40b8)
def f40b11:AQ:=(.block 1 f40b10)
def f40b12:AQ:=(.seq f40b11 (.region f40r3))
def f40b13:AQ:=(.cond (.t 9) .skip (.exit 0))
def f40b14:AQ:=(.seq f40b13 f40b12)
def f40r15:LA:=[.mk none (.bin 9 .lss (.t 8) (.t 7))]
def f40b16:AQ:=(.seq (.region f40r15) f40b14)
def f40l17:AQ:=.loop [0,1,7,8] [] f40b16
def f40b18:AQ:=(.block 0 f40l17)
def f40r19:LA:=[.mk none (.mov 6 (.t 0)),.mk none (.len 7 (.t 6)),.mk none (.mov 8 (.v (.k (.c (.int .i64 0)))))]
def f40b20:AQ:=(.seq (.region f40r19) f40b18)
def f40b21:AQ:=(.seq f40b20 f40b2)
def f40r22:LA:=[.mk none (.mov 4 (.v (.k (.c (.int .i64 0)))))]
def f40b23:AQ:=(.seq (.region f40r22) f40b21)
def f40:AQ:=f40b23
theorem hf40:zI Tryz.prog 40=some ⟨19,f40.erase,[(RX.t 4)]⟩:=by kernel_rfl
theorem okf40:f40.ok=true:=by kernel_rfl
def f215r1:LA:=[.mk none (.mov 44 (.t 6)),.mk none (.mov 4 (.t 44)),.mk none (.mov 5 (.v (.k (.c (.bool true)))))]
def f215b2:AQ:=(.seq (.region f215r1) .ret)
def f215r3:LA:=[.mk none (.bin 43 .add (.t 12) (.v (.k (.c (.int .i64 1))))),.mk none (.mov 12 (.t 43))]
def f215r4:LA:=[.mk none (.mov 35 (.t 6)),.mk none (.faddr 36 2 (.t 8)),.mk none (.load 37 1 false (.t 36)),.mk none (.mov 38 (.t 9)),.mk none (.iaddr 39 1 (.t 37) (.t 38)),.mk none (.load 40 1 false (.t 39)),.mk none (.bslice 41 9 1 [(.str [])] 1 [(0,(.t 40))]),.mk none (.append 42 9 1 16 (.t 35) (.t 41)),.mk none (.mov 6 (.t 42))]
def f215r5:LA:=[.mk none (.nilL 4 9 1),.mk none (.mov 5 (.v (.k (.c (.bool false)))))]
def f215b6:AQ:=(.seq (.region f215r5) .ret)
def f215b7:AQ:=(.cond (.t 34) f215b6 .skip)
def f215r8:LA:=[.mk none (.mov 26 (.t 9)),.mk none (.bin 27 .lss (.t 26) (.v (.k (.c (.int .i64 0))))),.mk none (.mov 28 (.t 27)),.mk (some (28,false)) (.mov 29 (.t 9)),.mk (some (28,false)) (.faddr 30 2 (.t 8)),.mk (some (28,false)) (.load 31 1 false (.t 30)),.mk (some (28,false)) (.len 32 (.t 31)),.mk (some (28,false)) (.bin 33 .geq (.t 29) (.t 32)),.mk none (.pick 34 (.t 28) (.v (.k (.c (.bool true)))) (.t 33))]
def f215b9:AQ:=(.seq (.region f215r8) f215b7)
def f215b10:AQ:=(.seq f215b9 (.region f215r4))
def f215r11:LA:=[.mk none (.faddr 21 1 (.t 8)),.mk none (.load 22 1 false (.t 21)),.mk none (.faddr 23 1 (.t 3)),.mk none (.load 24 1 false (.t 23)),.mk none (.call (some 25) 40 [(.t 22),(.t 24)]),.mk none (.mov 9 (.t 25))]
def f215b12:AQ:=(.seq (.region f215r11) f215b10)
def f215b13:AQ:=(.cond (.t 20) (.exit 1) .skip)
def f215r14:LA:=[.mk none (.faddr 16 0 (.t 8)),.mk none (.load 17 1 false (.t 16)),.mk none (.faddr 18 0 (.t 3)),.mk none (.load 19 1 false (.t 18)),.mk none (.bin 20 .neq (.t 17) (.t 19))]
def f215b15:AQ:=(.seq (.region f215r14) f215b13)
def f215b16:AQ:=(.seq f215b15 f215b12)
def f215r17:LA:=[.mk none (.iaddr 14 3 (.t 10) (.t 12)),.mk none (.load 15 3 true (.t 14)),.mk none (.alloc 8 53 [(.str []),(.list 0 (some true) []),(.list 0 (some true) [])]),.mk none (.store 3 (.t 8) (.t 15))]
def f215b18:AQ:=(.seq (.region f215r17) (.frz 8 f215b16))
def f215b19:AQ:=(.block 1 f215b18)
def f215b20:AQ:=(.seq f215b19 (.region f215r3))
def f215b21:AQ:=(.cond (.t 13) .skip (.exit 0))
def f215b22:AQ:=(.seq f215b21 f215b20)
def f215r23:LA:=[.mk none (.bin 13 .lss (.t 12) (.t 11))]
def f215b24:AQ:=(.seq (.region f215r23) f215b22)
def f215l25:AQ:=.loop [3,6,10,11,12] [3,6,42] f215b24
def f215b26:AQ:=(.block 0 f215l25)
def f215r27:LA:=[.mk none (.mov 10 (.t 0)),.mk none (.len 11 (.t 10)),.mk none (.mov 12 (.v (.k (.c (.int .i64 0)))))]
def f215b28:AQ:=(.seq (.region f215r27) f215b26)
def f215b29:AQ:=(.seq f215b28 f215b2)
def f215r30:LA:=[.mk none (.nilL 6 9 1)]
def f215b31:AQ:=(.seq (.region f215r30) f215b29)
def f215r32:LA:=[.mk none (.box 3 163 (.t 1)),.mk none (.nilL 4 9 1),.mk none (.mov 5 (.v (.k (.c (.bool false)))))]
def f215b33:AQ:=(.seq (.region f215r32) (.frz 3 f215b31))
def f215:AQ:=f215b33
theorem hf215:zI Tryz.prog 215=some ⟨45,f215.erase,[(RX.t 4),(RX.t 5)]⟩:=by kernel_rfl
theorem okf215:f215.ok=true:=by kernel_rfl
def f204r1:LA:=[.mk none (.mov 5 (.t 1)),.mk none (.faddr 6 0 (.t 2)),.mk none (.load 7 1 false (.t 6)),.mk none (.call (some 8) 207 [(.t 5),(.t 7)]),.mk none (.mov 4 (.t 8))]
def f204b2:AQ:=(.seq (.region f204r1) .ret)
def f204r3:LA:=[.mk none (.box 2 165 (.t 0)),.mk none (.mov 4 (.v (.k (.c (.bool false)))))]
def f204b4:AQ:=(.seq (.region f204r3) (.frz 2 f204b2))
def f204:AQ:=f204b4
theorem hf204:zI Tryz.prog 204=some ⟨9,f204.erase,[(RX.t 4)]⟩:=by kernel_rfl
theorem okf204:f204.ok=true:=by kernel_rfl
def f205r1:LA:=[.mk none (.faddr 3 0 (.t 1)),.mk none (.load 4 1 false (.t 3)),.mk none (.call (some 5) 92 [(.t 4)]),.mk none (.mov 2 (.t 5))]
def f205b2:AQ:=(.seq (.region f205r1) .ret)
def f205r3:LA:=[.mk none (.box 1 165 (.t 0)),.mk none (.mov 2 (.v (.k (.c (.bool false)))))]
def f205b4:AQ:=(.seq (.region f205r3) (.frz 1 f205b2))
def f205:AQ:=f205b4
theorem hf205:zI Tryz.prog 205=some ⟨6,f205.erase,[(RX.t 2)]⟩:=by kernel_rfl
theorem okf205:f205.ok=true:=by kernel_rfl
def f206r1:LA:=[.mk none (.faddr 3 0 (.t 1)),.mk none (.load 4 1 false (.t 3)),.mk none (.bin 5 .add (.v (.k (.c (.str [110,101,101,100,32])))) (.t 4)),.mk none (.bin 6 .add (.t 5) (.v (.k (.c (.str [32,59]))))),.mk none (.mov 2 (.t 6))]
def f206b2:AQ:=(.seq (.region f206r1) .ret)
def f206r3:LA:=[.mk none (.box 1 165 (.t 0)),.mk none (.mov 2 (.v (.k (.c (.str [])))))]
def f206b4:AQ:=(.seq (.region f206r3) (.frz 1 f206b2))
def f206:AQ:=f206b4
theorem hf206:zI Tryz.prog 206=some ⟨7,f206.erase,[(RX.t 2)]⟩:=by kernel_rfl
theorem okf206:f206.ok=true:=by kernel_rfl
def f203r1:LA:=[.mk none (.faddr 3 0 (.t 1)),.mk none (.load 4 1 false (.t 3)),.mk none (.build 5 [(.int .i64 0),(.str []),(.str []),(.str []),(.str []),(.str []),(.int .i64 0),(.int .i64 0)] [(0,(1,(.v (.k (.c (.int .i64 0)))))),(1,(1,(.t 4)))]),.mk none (.store 8 (.t 2) (.t 5))]
def f203b2:AQ:=(.seq (.region f203r1) .ret)
def f203r3:LA:=[.mk none (.box 1 165 (.t 0)),.mk none (.alloc 2 46 [(.int .i64 0),(.str []),(.str []),(.str []),(.str []),(.str []),(.int .i64 0),(.int .i64 0)])]
def f203b4:AQ:=(.seq (.region f203r3) (.frz 1 f203b2))
def f203:AQ:=f203b4
theorem hf203:zI Tryz.prog 203=some ⟨6,f203.erase,[(RX.cell 2 8 true)]⟩:=by kernel_rfl
theorem okf203:f203.ok=true:=by kernel_rfl
def f201r1:LA:=[.mk none (.faddr 3 0 (.t 1)),.mk none (.load 4 1 false (.t 3)),.mk none (.call (some 5) 92 [(.t 4)]),.mk none (.mov 6 (.t 5)),.mk (some (6,true)) (.faddr 7 1 (.t 1)),.mk (some (6,true)) (.load 8 1 false (.t 7)),.mk (some (6,true)) (.call (some 9) 92 [(.t 8)]),.mk none (.pick 10 (.t 6) (.t 9) (.v (.k (.c (.bool false))))),.mk none (.mov 2 (.t 10))]
def f201b2:AQ:=(.seq (.region f201r1) .ret)
def f201r3:LA:=[.mk none (.box 1 163 (.t 0)),.mk none (.mov 2 (.v (.k (.c (.bool false)))))]
def f201b4:AQ:=(.seq (.region f201r3) (.frz 1 f201b2))
def f201:AQ:=f201b4
theorem hf201:zI Tryz.prog 201=some ⟨11,f201.erase,[(RX.t 2)]⟩:=by kernel_rfl
theorem okf201:f201.ok=true:=by kernel_rfl
def f202r1:LA:=[.mk none (.faddr 3 0 (.t 1)),.mk none (.load 4 1 false (.t 3)),.mk none (.bin 5 .add (.t 4) (.v (.k (.c (.str [32,46,32]))))),.mk none (.faddr 6 1 (.t 1)),.mk none (.load 7 1 false (.t 6)),.mk none (.bin 8 .add (.t 5) (.t 7)),.mk none (.mov 2 (.t 8))]
def f202b2:AQ:=(.seq (.region f202r1) .ret)
def f202r3:LA:=[.mk none (.box 1 163 (.t 0)),.mk none (.mov 2 (.v (.k (.c (.str [])))))]
def f202b4:AQ:=(.seq (.region f202r3) (.frz 1 f202b2))
def f202:AQ:=f202b4
theorem hf202:zI Tryz.prog 202=some ⟨9,f202.erase,[(RX.t 2)]⟩:=by kernel_rfl
theorem okf202:f202.ok=true:=by kernel_rfl
def f211r1:LA:=[.mk none (.faddr 3 0 (.t 1)),.mk none (.faddr 4 0 (.t 3)),.mk none (.load 5 1 false (.t 4)),.mk none (.faddr 6 0 (.t 1)),.mk none (.faddr 7 1 (.t 6)),.mk none (.load 8 1 false (.t 7)),.mk none (.faddr 9 2 (.t 1)),.mk none (.load 10 1 false (.t 9)),.mk none (.build 11 [(.int .i64 0),(.str []),(.str []),(.str []),(.str []),(.str []),(.int .i64 0),(.int .i64 0)] [(0,(1,(.v (.k (.c (.int .i64 1)))))),(1,(1,(.t 5))),(2,(1,(.t 8))),(5,(1,(.t 10)))]),.mk none (.store 8 (.t 2) (.t 11))]
def f211b2:AQ:=(.seq (.region f211r1) .ret)
def f211r3:LA:=[.mk none (.box 1 167 (.t 0)),.mk none (.alloc 2 46 [(.int .i64 0),(.str []),(.str []),(.str []),(.str []),(.str []),(.int .i64 0),(.int .i64 0)])]
def f211b4:AQ:=(.seq (.region f211r3) (.frz 1 f211b2))
def f211:AQ:=f211b4
theorem hf211:zI Tryz.prog 211=some ⟨12,f211.erase,[(RX.cell 2 8 true)]⟩:=by kernel_rfl
theorem okf211:f211.ok=true:=by kernel_rfl
def f212r1:LA:=[.mk none (.mov 14 (.t 6)),.mk none (.mov 15 (.t 14)),.mk (some (15,true)) (.mov 16 (.t 5)),.mk (some (15,true)) (.mkfn 17 216 [(.t 2)]),.mk (some (15,true)) (.call (some 18) 57 [(.t 16),(.t 17)]),.mk (some (15,true)) (.un 19 .not (.t 18)),.mk none (.pick 20 (.t 15) (.t 19) (.v (.k (.c (.bool false))))),.mk none (.mov 4 (.t 20))]
def f212b2:AQ:=(.seq (.region f212r1) .ret)
def f212r3:LA:=[.mk none (.mov 8 (.t 1)),.mk none (.faddr 9 0 (.t 2)),.mk none (.load 10 2 true (.t 9)),.mk none (.call (some 11) 215 [(.t 8),(.t 10)]),.mk none (.mov 7 (.t 11)),.mk none (.extr 12 (.t 7) 0),.mk none (.extr 13 (.t 7) 1),.mk none (.mov 5 (.t 12)),.mk none (.mov 6 (.t 13))]
def f212b4:AQ:=(.seq (.region f212r3) f212b2)
def f212r5:LA:=[.mk none (.box 2 167 (.t 0)),.mk none (.mov 4 (.v (.k (.c (.bool false)))))]
def f212b6:AQ:=(.seq (.region f212r5) (.frz 2 f212b4))
def f212:AQ:=f212b6
theorem hf212:zI Tryz.prog 212=some ⟨21,f212.erase,[(RX.t 4)]⟩:=by kernel_rfl
theorem okf212:f212.ok=true:=by kernel_rfl
def f213r1:LA:=[.mk none (.mov 11 (.t 4)),.mk none (.mov 12 (.t 11)),.mk (some (12,true)) (.faddr 13 0 (.t 1)),.mk (some (12,true)) (.load 14 2 true (.t 13)),.mk (some (12,true)) (.call (some 15) 201 [(.t 14)]),.mk none (.pick 16 (.t 12) (.t 15) (.v (.k (.c (.bool false))))),.mk none (.mov 2 (.t 16))]
def f213b2:AQ:=(.seq (.region f213r1) .ret)
def f213r3:LA:=[.mk none (.faddr 6 2 (.t 1)),.mk none (.load 7 1 false (.t 6)),.mk none (.call (some 8) 217 [(.t 7)]),.mk none (.mov 5 (.t 8)),.mk none (.extr 9 (.t 5) 0),.mk none (.extr 10 (.t 5) 1),.mk none (.mov 3 (.t 9)),.mk none (.mov 4 (.t 10))]
def f213b4:AQ:=(.seq (.region f213r3) f213b2)
def f213r5:LA:=[.mk none (.box 1 167 (.t 0)),.mk none (.mov 2 (.v (.k (.c (.bool false)))))]
def f213b6:AQ:=(.seq (.region f213r5) (.frz 1 f213b4))
def f213:AQ:=f213b6
theorem hf213:zI Tryz.prog 213=some ⟨17,f213.erase,[(RX.t 2)]⟩:=by kernel_rfl
theorem okf213:f213.ok=true:=by kernel_rfl
def f214r1:LA:=[.mk none (.faddr 11 0 (.t 1)),.mk none (.load 12 2 true (.t 11)),.mk none (.call (some 13) 202 [(.t 12)]),.mk none (.bin 14 .add (.v (.k (.c (.str [102,105,101,108,100,32])))) (.t 13)),.mk none (.bin 15 .add (.t 14) (.v (.k (.c (.str [32,105,115,32]))))),.mk none (.mov 16 (.t 3)),.mk none (.bin 17 .add (.t 15) (.t 16)),.mk none (.bin 18 .add (.t 17) (.v (.k (.c (.str [32,59]))))),.mk none (.mov 2 (.t 18))]
def f214b2:AQ:=(.seq (.region f214r1) .ret)
def f214r3:LA:=[.mk none (.faddr 6 2 (.t 1)),.mk none (.load 7 1 false (.t 6)),.mk none (.call (some 8) 217 [(.t 7)]),.mk none (.mov 5 (.t 8)),.mk none (.extr 9 (.t 5) 0),.mk none (.extr 10 (.t 5) 1),.mk none (.mov 3 (.t 9)),.mk none (.mov 4 (.t 10))]
def f214b4:AQ:=(.seq (.region f214r3) f214b2)
def f214r5:LA:=[.mk none (.box 1 167 (.t 0)),.mk none (.mov 2 (.v (.k (.c (.str [])))))]
def f214b6:AQ:=(.seq (.region f214r5) (.frz 1 f214b4))
def f214:AQ:=f214b6
theorem hf214:zI Tryz.prog 214=some ⟨19,f214.erase,[(RX.t 2)]⟩:=by kernel_rfl
theorem okf214:f214.ok=true:=by kernel_rfl
def f216r1:LA:=[.mk none (.mov 4 (.t 0)),.mk none (.faddr 5 2 (.t 1)),.mk none (.load 6 1 false (.t 5)),.mk none (.bin 7 .neq (.t 4) (.t 6)),.mk none (.mov 3 (.t 7))]
def f216b2:AQ:=(.seq (.region f216r1) .ret)
def f216r3:LA:=[.mk none (.mov 3 (.v (.k (.c (.bool false)))))]
def f216b4:AQ:=(.seq (.region f216r3) f216b2)
def f216:AQ:=f216b4
theorem hf216:zI Tryz.prog 216=some ⟨8,f216.erase,[(RX.t 3)]⟩:=by kernel_rfl
theorem okf216:f216.ok=true:=by kernel_rfl
def f221r1:LA:=[.mk none (.faddr 3 0 (.t 1)),.mk none (.faddr 4 0 (.t 3)),.mk none (.load 5 1 false (.t 4)),.mk none (.faddr 6 0 (.t 1)),.mk none (.faddr 7 1 (.t 6)),.mk none (.load 8 1 false (.t 7)),.mk none (.faddr 9 2 (.t 1)),.mk none (.faddr 10 0 (.t 9)),.mk none (.load 11 1 false (.t 10)),.mk none (.faddr 12 2 (.t 1)),.mk none (.faddr 13 1 (.t 12)),.mk none (.load 14 1 false (.t 13)),.mk none (.build 15 [(.int .i64 0),(.str []),(.str []),(.str []),(.str []),(.str []),(.int .i64 0),(.int .i64 0)] [(0,(1,(.v (.k (.c (.int .i64 3)))))),(1,(1,(.t 5))),(2,(1,(.t 8))),(3,(1,(.t 11))),(4,(1,(.t 14)))]),.mk none (.store 8 (.t 2) (.t 15))]
def f221b2:AQ:=(.seq (.region f221r1) .ret)
def f221r3:LA:=[.mk none (.box 1 169 (.t 0)),.mk none (.alloc 2 46 [(.int .i64 0),(.str []),(.str []),(.str []),(.str []),(.str []),(.int .i64 0),(.int .i64 0)])]
def f221b4:AQ:=(.seq (.region f221r3) (.frz 1 f221b2))
def f221:AQ:=f221b4
theorem hf221:zI Tryz.prog 221=some ⟨16,f221.erase,[(RX.cell 2 8 true)]⟩:=by kernel_rfl
theorem okf221:f221.ok=true:=by kernel_rfl
def f223r1:LA:=[.mk none (.faddr 3 0 (.t 1)),.mk none (.load 4 2 true (.t 3)),.mk none (.call (some 5) 201 [(.t 4)]),.mk none (.mov 6 (.t 5)),.mk (some (6,true)) (.faddr 7 2 (.t 1)),.mk (some (6,true)) (.load 8 2 true (.t 7)),.mk (some (6,true)) (.call (some 9) 201 [(.t 8)]),.mk none (.pick 10 (.t 6) (.t 9) (.v (.k (.c (.bool false))))),.mk none (.mov 2 (.t 10))]
def f223b2:AQ:=(.seq (.region f223r1) .ret)
def f223r3:LA:=[.mk none (.box 1 169 (.t 0)),.mk none (.mov 2 (.v (.k (.c (.bool false)))))]
def f223b4:AQ:=(.seq (.region f223r3) (.frz 1 f223b2))
def f223:AQ:=f223b4
theorem hf223:zI Tryz.prog 223=some ⟨11,f223.erase,[(RX.t 2)]⟩:=by kernel_rfl
theorem okf223:f223.ok=true:=by kernel_rfl
def f224r1:LA:=[.mk none (.faddr 3 0 (.t 1)),.mk none (.load 4 2 true (.t 3)),.mk none (.call (some 5) 202 [(.t 4)]),.mk none (.bin 6 .add (.v (.k (.c (.str [102,105,101,108,100,32])))) (.t 5)),.mk none (.bin 7 .add (.t 6) (.v (.k (.c (.str [32,115,97,109,101,32]))))),.mk none (.faddr 8 2 (.t 1)),.mk none (.load 9 2 true (.t 8)),.mk none (.call (some 10) 202 [(.t 9)]),.mk none (.bin 11 .add (.t 7) (.t 10)),.mk none (.bin 12 .add (.t 11) (.v (.k (.c (.str [32,59]))))),.mk none (.mov 2 (.t 12))]
def f224b2:AQ:=(.seq (.draw f224r1 [[],[0],[1],[2],[3],[],[5],[6,2],[4,7],[8],[9,7,0,1,2,3,4,5,6,7,8,9]]) .ret)
def f224r3:LA:=[.mk none (.box 1 169 (.t 0)),.mk none (.mov 2 (.v (.k (.c (.str [])))))]
def f224b4:AQ:=(.seq (.region f224r3) (.frz 1 f224b2))
def f224:AQ:=f224b4
theorem hf224:zI Tryz.prog 224=some ⟨13,f224.erase,[(RX.t 2)]⟩:=by kernel_rfl
theorem okf224:f224.ok=true:=by kernel_rfl
def f225r1:LA:=[.mk none (.mov 4 (.t 0)),.mk none (.load 5 1 false (.t 1)),.mk none (.iaddr 6 1 (.t 5) (.v (.k (.c (.int .i64 0))))),.mk none (.load 7 1 false (.t 6)),.mk none (.bin 8 .neq (.t 4) (.t 7)),.mk none (.mov 3 (.t 8))]
def f225b2:AQ:=(.seq (.region f225r1) .ret)
def f225r3:LA:=[.mk none (.mov 3 (.v (.k (.c (.bool false)))))]
def f225b4:AQ:=(.seq (.region f225r3) f225b2)
def f225:AQ:=f225b4
theorem hf225:zI Tryz.prog 225=some ⟨9,f225.erase,[(RX.t 3)]⟩:=by kernel_rfl
theorem okf225:f225.ok=true:=by kernel_rfl
def f226r1:LA:=[.mk none (.load 18 8 true (.t 3)),.mk none (.store 8 (.t 2) (.t 18))]
def f226b2:AQ:=(.seq (.region f226r1) .ret)
def f226r3:LA:=[.mk none (.faddr 17 0 (.t 3)),.mk none (.store 1 (.t 17) (.v (.k (.c (.int .i64 4)))))]
def f226b4:AQ:=(.cond (.t 16) (.region f226r3) .skip)
def f226r5:LA:=[.mk none (.faddr 15 4 (.t 1)),.mk none (.load 16 1 false (.t 15))]
def f226b6:AQ:=(.seq (.region f226r5) f226b4)
def f226b7:AQ:=(.seq f226b6 f226b2)
def f226r8:LA:=[.mk none (.faddr 4 0 (.t 1)),.mk none (.faddr 5 0 (.t 4)),.mk none (.load 6 1 false (.t 5)),.mk none (.faddr 7 0 (.t 1)),.mk none (.faddr 8 1 (.t 7)),.mk none (.load 9 1 false (.t 8)),.mk none (.faddr 10 2 (.t 1)),.mk none (.load 11 1 false (.t 10)),.mk none (.faddr 12 3 (.t 1)),.mk none (.load 13 1 false (.t 12)),.mk none (.build 14 [(.int .i64 0),(.str []),(.str []),(.str []),(.str []),(.str []),(.int .i64 0),(.int .i64 0)] [(0,(1,(.v (.k (.c (.int .i64 2)))))),(1,(1,(.t 6))),(2,(1,(.t 9))),(6,(1,(.t 11))),(7,(1,(.t 13)))]),.mk none (.alloc 3 46 [(.int .i64 0),(.str []),(.str []),(.str []),(.str []),(.str []),(.int .i64 0),(.int .i64 0)]),.mk none (.store 8 (.t 3) (.t 14))]
def f226b9:AQ:=(.seq (.region f226r8) f226b7)
def f226r10:LA:=[.mk none (.box 1 171 (.t 0)),.mk none (.alloc 2 46 [(.int .i64 0),(.str []),(.str []),(.str []),(.str []),(.str []),(.int .i64 0),(.int .i64 0)])]
def f226b11:AQ:=(.seq (.region f226r10) (.frz 1 f226b9))
def f226:AQ:=f226b11
theorem hf226:zI Tryz.prog 226=some ⟨19,f226.erase,[(RX.cell 2 8 true)]⟩:=by kernel_rfl
theorem okf226:f226.ok=true:=by kernel_rfl
def f227r1:LA:=[.mk none (.mov 53 (.t 6)),.mk none (.mov 54 (.t 53)),.mk (some (54,true)) (.faddr 55 4 (.t 2)),.mk (some (54,true)) (.load 56 1 false (.t 55)),.mk (some (54,true)) (.un 57 .not (.t 56)),.mk (some (54,true)) (.mov 58 (.t 57)),.mk (some (58,false)) (.mov 59 (.t 7)),.mk (some (58,false)) (.faddr 60 2 (.t 2)),.mk (some (58,false)) (.load 61 1 false (.t 60)),.mk (some (58,false)) (.bin 62 .geq (.t 59) (.t 61)),.mk (some (58,false)) (.mov 63 (.t 62)),.mk (some (63,true)) (.mov 64 (.t 7)),.mk (some (63,true)) (.faddr 65 3 (.t 2)),.mk (some (63,true)) (.load 66 1 false (.t 65)),.mk (some (63,true)) (.bin 67 .leq (.t 64) (.t 66)),.mk (some (58,false)) (.pick 68 (.t 63) (.t 67) (.v (.k (.c (.bool false))))),.mk (some (54,true)) (.pick 69 (.t 58) (.v (.k (.c (.bool true)))) (.t 68)),.mk none (.pick 70 (.t 54) (.t 69) (.v (.k (.c (.bool false))))),.mk none (.mov 4 (.t 70))]
def f227b2:AQ:=(.seq (.region f227r1) .ret)
def f227r3:LA:=[.mk none (.bin 52 .add (.t 21) (.v (.k (.c (.int .i64 1))))),.mk none (.mov 21 (.t 52))]
def f227r4:LA:=[.mk none (.mov 49 (.t 7)),.mk none (.mov 50 (.t 10)),.mk none (.bin 51 .add (.t 49) (.t 50)),.mk none (.mov 7 (.t 51))]
def f227r5:LA:=[.mk none (.mov 4 (.v (.k (.c (.bool false)))))]
def f227b6:AQ:=(.seq (.region f227r5) .ret)
def f227b7:AQ:=(.cond (.t 48) f227b6 .skip)
def f227r8:LA:=[.mk none (.mov 30 (.t 11)),.mk none (.un 31 .not (.t 30)),.mk none (.mov 32 (.t 31)),.mk (some (32,false)) (.faddr 33 4 (.t 2)),.mk (some (32,false)) (.load 34 1 false (.t 33)),.mk (some (32,false)) (.un 35 .not (.t 34)),.mk (some (32,false)) (.mov 36 (.t 35)),.mk (some (36,true)) (.mov 37 (.t 10)),.mk (some (36,true)) (.faddr 38 2 (.t 2)),.mk (some (36,true)) (.load 39 1 false (.t 38)),.mk (some (36,true)) (.bin 40 .lss (.t 37) (.t 39)),.mk (some (36,true)) (.mov 41 (.t 40)),.mk (some (41,false)) (.mov 42 (.t 10)),.mk (some (41,false)) (.faddr 43 3 (.t 2)),.mk (some (41,false)) (.load 44 1 false (.t 43)),.mk (some (41,false)) (.bin 45 .gtr (.t 42) (.t 44)),.mk (some (36,true)) (.pick 46 (.t 41) (.v (.k (.c (.bool true)))) (.t 45)),.mk (some (32,false)) (.pick 47 (.t 36) (.t 46) (.v (.k (.c (.bool false))))),.mk none (.pick 48 (.t 32) (.v (.k (.c (.bool true)))) (.t 47))]
def f227b9:AQ:=(.seq (.region f227r8) f227b7)
def f227b10:AQ:=(.seq f227b9 (.region f227r4))
def f227r11:LA:=[.mk none (.mov 26 (.t 9)),.mk none (.call (some 27) 230 [(.t 26)]),.mk none (.mov 25 (.t 27)),.mk none (.extr 28 (.t 25) 0),.mk none (.extr 29 (.t 25) 1),.mk none (.mov 10 (.t 28)),.mk none (.mov 11 (.t 29))]
def f227b12:AQ:=(.seq (.region f227r11) f227b10)
def f227r13:LA:=[.mk none (.iaddr 23 1 (.t 19) (.t 21)),.mk none (.load 24 1 false (.t 23)),.mk none (.mov 9 (.t 24))]
def f227b14:AQ:=(.seq (.region f227r13) f227b12)
def f227b15:AQ:=(.block 1 f227b14)
def f227b16:AQ:=(.seq f227b15 (.region f227r3))
def f227b17:AQ:=(.cond (.t 22) .skip (.exit 0))
def f227b18:AQ:=(.seq f227b17 f227b16)
def f227r19:LA:=[.mk none (.bin 22 .lss (.t 21) (.t 20))]
def f227b20:AQ:=(.seq (.region f227r19) f227b18)
def f227l21:AQ:=.loop [2,6,7,19,20,21] [2,16,17000,17001,17002] f227b20
def f227b22:AQ:=(.block 0 f227l21)
def f227r23:LA:=[.mk none (.mov 19 (.t 5)),.mk none (.len 20 (.t 19)),.mk none (.mov 21 (.v (.k (.c (.int .i64 0)))))]
def f227b24:AQ:=(.seq (.region f227r23) f227b22)
def f227b25:AQ:=(.seq f227b24 f227b2)
def f227r26:LA:=[.mk none (.mov 7 (.v (.k (.c (.int .i64 0)))))]
def f227b27:AQ:=(.seq (.region f227r26) f227b25)
def f227r28:LA:=[.mk none (.mov 13 (.t 1)),.mk none (.faddr 14 0 (.t 2)),.mk none (.load 15 2 true (.t 14)),.mk none (.call (some 16) 215 [(.t 13),(.t 15)]),.mk none (.mov 12 (.t 16)),.mk none (.extr 17 (.t 12) 0),.mk none (.extr 18 (.t 12) 1),.mk none (.mov 5 (.t 17)),.mk none (.mov 6 (.t 18))]
def f227b29:AQ:=(.seq (.region f227r28) f227b27)
def f227r30:LA:=[.mk none (.box 2 171 (.t 0)),.mk none (.mov 4 (.v (.k (.c (.bool false)))))]
def f227b31:AQ:=(.seq (.region f227r30) (.frz 2 f227b29))
def f227:AQ:=f227b31
theorem hf227:zI Tryz.prog 227=some ⟨71,f227.erase,[(RX.t 4)]⟩:=by kernel_rfl
theorem okf227:f227.ok=true:=by kernel_rfl
def f228r1:LA:=[.mk none (.faddr 3 0 (.t 1)),.mk none (.load 4 2 true (.t 3)),.mk none (.call (some 5) 201 [(.t 4)]),.mk none (.mov 6 (.t 5)),.mk (some (6,true)) (.faddr 7 2 (.t 1)),.mk (some (6,true)) (.load 8 1 false (.t 7)),.mk (some (6,true)) (.bin 9 .geq (.t 8) (.v (.k (.c (.int .i64 0))))),.mk none (.pick 10 (.t 6) (.t 9) (.v (.k (.c (.bool false))))),.mk none (.mov 11 (.t 10)),.mk (some (11,true)) (.faddr 12 2 (.t 1)),.mk (some (11,true)) (.load 13 1 false (.t 12)),.mk (some (11,true)) (.faddr 14 3 (.t 1)),.mk (some (11,true)) (.load 15 1 false (.t 14)),.mk (some (11,true)) (.bin 16 .leq (.t 13) (.t 15)),.mk none (.pick 17 (.t 11) (.t 16) (.v (.k (.c (.bool false))))),.mk none (.mov 18 (.t 17)),.mk (some (18,true)) (.faddr 19 3 (.t 1)),.mk (some (18,true)) (.load 20 1 false (.t 19)),.mk (some (18,true)) (.bin 21 .leq (.t 20) (.v (.k (.c (.int .i64 1099511627776))))),.mk none (.pick 22 (.t 18) (.t 21) (.v (.k (.c (.bool false))))),.mk none (.mov 2 (.t 22))]
def f228b2:AQ:=(.seq (.region f228r1) .ret)
def f228r3:LA:=[.mk none (.box 1 171 (.t 0)),.mk none (.mov 2 (.v (.k (.c (.bool false)))))]
def f228b4:AQ:=(.seq (.region f228r3) (.frz 1 f228b2))
def f228:AQ:=f228b4
theorem hf228:zI Tryz.prog 228=some ⟨23,f228.erase,[(RX.t 2)]⟩:=by kernel_rfl
theorem okf228:f228.ok=true:=by kernel_rfl
def f230r1:LA:=[.mk none (.mov 45 (.t 4)),.mk none (.mov 2 (.t 45)),.mk none (.mov 3 (.v (.k (.c (.bool true)))))]
def f230b2:AQ:=(.seq (.region f230r1) .ret)
def f230r3:LA:=[.mk none (.mov 2 (.v (.k (.c (.int .i64 0))))),.mk none (.mov 3 (.v (.k (.c (.bool false)))))]
def f230b4:AQ:=(.seq (.region f230r3) .ret)
def f230b5:AQ:=(.cond (.t 44) f230b4 .skip)
def f230r6:LA:=[.mk none (.mov 43 (.t 4)),.mk none (.bin 44 .gtr (.t 43) (.v (.k (.c (.int .i64 1099511627776)))))]
def f230b7:AQ:=(.seq (.region f230r6) f230b5)
def f230b8:AQ:=(.seq f230b7 f230b2)
def f230r9:LA:=[.mk none (.bin 42 .add (.t 31) (.v (.k (.c (.int .i64 1))))),.mk none (.mov 31 (.t 42))]
def f230r10:LA:=[.mk none (.mov 34 (.t 4)),.mk none (.bin 35 .mul (.v (.k (.c (.int .i64 10)))) (.t 34)),.mk none (.mov 36 (.t 0)),.mk none (.mov 37 (.t 5)),.mk none (.sidx 38 (.t 36) (.t 37)),.mk none (.bin 39 .sub (.t 38) (.v (.k (.c (.int .u8 48))))),.mk none (.conv 40 .i64 (.t 39)),.mk none (.bin 41 .add (.t 35) (.t 40)),.mk none (.mov 4 (.t 41))]
def f230r11:LA:=[.mk none (.mov 33 (.t 31)),.mk none (.mov 5 (.t 33))]
def f230b12:AQ:=(.seq (.region f230r11) (.region f230r10))
def f230b13:AQ:=(.block 1 f230b12)
def f230b14:AQ:=(.seq f230b13 (.region f230r9))
def f230b15:AQ:=(.cond (.t 32) .skip (.exit 0))
def f230b16:AQ:=(.seq f230b15 f230b14)
def f230r17:LA:=[.mk none (.bin 32 .lss (.t 31) (.t 30))]
def f230b18:AQ:=(.seq (.region f230r17) f230b16)
def f230l19:AQ:=.loop [0,4,30,31] [] f230b18
def f230b20:AQ:=(.block 0 f230l19)
def f230r21:LA:=[.mk none (.mov 29 (.t 0)),.mk none (.lenS 30 (.t 29)),.mk none (.mov 31 (.v (.k (.c (.int .i64 0)))))]
def f230b22:AQ:=(.seq (.region f230r21) f230b20)
def f230b23:AQ:=(.seq f230b22 f230b8)
def f230r24:LA:=[.mk none (.mov 4 (.v (.k (.c (.int .i64 0)))))]
def f230b25:AQ:=(.seq (.region f230r24) f230b23)
def f230r26:LA:=[.mk none (.mov 2 (.v (.k (.c (.int .i64 0))))),.mk none (.mov 3 (.v (.k (.c (.bool false)))))]
def f230b27:AQ:=(.seq (.region f230r26) .ret)
def f230b28:AQ:=(.cond (.t 28) f230b27 .skip)
def f230r29:LA:=[.mk none (.mov 6 (.t 0)),.mk none (.bin 7 .eql (.t 6) (.v (.k (.c (.str []))))),.mk none (.mov 8 (.t 7)),.mk (some (8,false)) (.mov 9 (.t 0)),.mk (some (8,false)) (.call (some 10) 126 [(.t 9),(.v (.k (.c (.fn 160 []))))]),.mk (some (8,false)) (.mov 11 (.t 0)),.mk (some (8,false)) (.lenS 12 (.t 11)),.mk (some (8,false)) (.bin 13 .neq (.t 10) (.t 12)),.mk none (.pick 14 (.t 8) (.v (.k (.c (.bool true)))) (.t 13)),.mk none (.mov 15 (.t 14)),.mk (some (15,false)) (.mov 16 (.t 0)),.mk (some (15,false)) (.sidx 17 (.t 16) (.v (.k (.c (.int .i64 0))))),.mk (some (15,false)) (.bin 18 .eql (.t 17) (.v (.k (.c (.int .u8 48))))),.mk (some (15,false)) (.mov 19 (.t 18)),.mk (some (19,true)) (.mov 20 (.t 0)),.mk (some (19,true)) (.bin 21 .neq (.t 20) (.v (.k (.c (.str [48]))))),.mk (some (15,false)) (.pick 22 (.t 19) (.t 21) (.v (.k (.c (.bool false))))),.mk none (.pick 23 (.t 15) (.v (.k (.c (.bool true)))) (.t 22)),.mk none (.mov 24 (.t 23)),.mk (some (24,false)) (.mov 25 (.t 0)),.mk (some (24,false)) (.lenS 26 (.t 25)),.mk (some (24,false)) (.bin 27 .gtr (.t 26) (.v (.k (.c (.int .i64 13))))),.mk none (.pick 28 (.t 24) (.v (.k (.c (.bool true)))) (.t 27))]
def f230b30:AQ:=(.seq (.region f230r29) f230b28)
def f230b31:AQ:=(.seq f230b30 f230b25)
def f230r32:LA:=[.mk none (.mov 2 (.v (.k (.c (.int .i64 0))))),.mk none (.mov 3 (.v (.k (.c (.bool false)))))]
def f230b33:AQ:=(.seq (.region f230r32) f230b31)
def f230:AQ:=f230b33
theorem hf230:zI Tryz.prog 230=some ⟨46,f230.erase,[(RX.t 2),(RX.t 3)]⟩:=by kernel_rfl
theorem okf230:f230.ok=true:=by kernel_rfl
def f217r1:LA:=[.mk none (.mov 14 (.t 0)),.mk none (.call (some 15) 219 [(.t 14)]),.mk none (.mov 2 (.t 15)),.mk none (.mov 3 (.v (.k (.c (.bool true)))))]
def f217b2:AQ:=(.seq (.region f217r1) .ret)
def f217r3:LA:=[.mk none (.mov 2 (.v (.k (.c (.str []))))),.mk none (.mov 3 (.v (.k (.c (.bool false)))))]
def f217b4:AQ:=(.seq (.region f217r3) .ret)
def f217b5:AQ:=(.cond (.t 13) f217b4 .skip)
def f217r6:LA:=[.mk none (.mov 4 (.t 0)),.mk none (.lenS 5 (.t 4)),.mk none (.bin 6 .gtr (.t 5) (.v (.k (.c (.int .i64 400))))),.mk none (.mov 7 (.t 6)),.mk (some (7,false)) (.mov 8 (.t 0)),.mk (some (7,false)) (.call (some 9) 126 [(.t 8),(.v (.k (.c (.fn 218 []))))]),.mk (some (7,false)) (.mov 10 (.t 0)),.mk (some (7,false)) (.lenS 11 (.t 10)),.mk (some (7,false)) (.bin 12 .neq (.t 9) (.t 11)),.mk none (.pick 13 (.t 7) (.v (.k (.c (.bool true)))) (.t 12))]
def f217b7:AQ:=(.seq (.region f217r6) f217b5)
def f217b8:AQ:=(.seq f217b7 f217b2)
def f217r9:LA:=[.mk none (.mov 2 (.v (.k (.c (.str []))))),.mk none (.mov 3 (.v (.k (.c (.bool false)))))]
def f217b10:AQ:=(.seq (.region f217r9) f217b8)
def f217:AQ:=f217b10
theorem hf217:zI Tryz.prog 217=some ⟨16,f217.erase,[(RX.t 2),(RX.t 3)]⟩:=by kernel_rfl
theorem okf217:f217.ok=true:=by kernel_rfl
def f218r1:LA:=[.mk none (.mov 3 (.t 0)),.mk none (.bin 4 .geq (.t 3) (.v (.k (.c (.int .u8 32))))),.mk none (.mov 5 (.t 4)),.mk (some (5,true)) (.mov 6 (.t 0)),.mk (some (5,true)) (.bin 7 .leq (.t 6) (.v (.k (.c (.int .u8 126))))),.mk none (.pick 8 (.t 5) (.t 7) (.v (.k (.c (.bool false))))),.mk none (.mov 2 (.t 8))]
def f218b2:AQ:=(.seq (.region f218r1) .ret)
def f218r3:LA:=[.mk none (.mov 2 (.v (.k (.c (.bool false)))))]
def f218b4:AQ:=(.seq (.region f218r3) f218b2)
def f218:AQ:=f218b4
theorem hf218:zI Tryz.prog 218=some ⟨9,f218.erase,[(RX.t 2)]⟩:=by kernel_rfl
theorem okf218:f218.ok=true:=by kernel_rfl
def f15r1:LA:=[.mk none (.mov 24 (.t 5)),.mk none (.mov 4 (.t 24))]
def f15b2:AQ:=(.seq (.region f15r1) .ret)
def f15r3:LA:=[.mk none (.bin 23 .add (.t 10) (.v (.k (.c (.int .i64 1))))),.mk none (.mov 10 (.t 23))]
def f15r4:LA:=[.mk none (.mov 19 (.t 5)),.mk none (.mov 20 (.t 6)),.mk none (.bslice 21 3 1 [(.int .i64 0)] 1 [(0,(.t 20))]),.mk none (.append 22 3 1 8 (.t 19) (.t 21)),.mk none (.mov 5 (.t 22))]
def f15b5:AQ:=(.cond (.t 18) (.region f15r4) .skip)
def f15r6:LA:=[.mk none (.load 15 8 true (.t 7)),.mk none (.mov 16 (.t 1)),.mk none (.call (some 17) 39 [(.t 15),(.t 16)]),.mk none (.un 18 .not (.t 17))]
def f15b7:AQ:=(.seq (.region f15r6) f15b5)
def f15r8:LA:=[.mk none (.mov 12 (.t 10)),.mk none (.iaddr 13 8 (.t 8) (.t 10)),.mk none (.load 14 8 true (.t 13)),.mk none (.alloc 7 46 [(.int .i64 0),(.str []),(.str []),(.str []),(.str []),(.str []),(.int .i64 0),(.int .i64 0)]),.mk none (.mov 6 (.t 12)),.mk none (.store 8 (.t 7) (.t 14))]
def f15b9:AQ:=(.seq (.region f15r8) (.frz 7 f15b7))
def f15b10:AQ:=(.block 1 f15b9)
def f15b11:AQ:=(.seq f15b10 (.region f15r3))
def f15b12:AQ:=(.cond (.t 11) .skip (.exit 0))
def f15b13:AQ:=(.seq f15b12 f15b11)
def f15r14:LA:=[.mk none (.bin 11 .lss (.t 10) (.t 9))]
def f15b15:AQ:=(.seq (.region f15r14) f15b13)
def f15l16:AQ:=.loop [1,5,8,9,10] [5,22] f15b15
def f15b17:AQ:=(.block 0 f15l16)
def f15r18:LA:=[.mk none (.mov 8 (.t 0)),.mk none (.len 9 (.t 8)),.mk none (.mov 10 (.v (.k (.c (.int .i64 0)))))]
def f15b19:AQ:=(.seq (.region f15r18) f15b17)
def f15b20:AQ:=(.seq f15b19 f15b2)
def f15r21:LA:=[.mk none (.nilL 5 3 1)]
def f15b22:AQ:=(.seq (.region f15r21) f15b20)
def f15r23:LA:=[.mk none (.nilL 4 3 1)]
def f15b24:AQ:=(.seq (.region f15r23) f15b22)
def f15:AQ:=f15b24
theorem hf15:zI Tryz.prog 15=some ⟨25,f15.erase,[(RX.t 4)]⟩:=by kernel_rfl
theorem okf15:f15.ok=true:=by kernel_rfl
def f16r1:LA:=[.mk none (.mov 91 (.t 5)),.mk none (.mov 4 (.t 91))]
def f16b2:AQ:=(.seq (.region f16r1) .ret)
def f16r3:LA:=[.mk none (.bin 90 .add (.t 23) (.v (.k (.c (.int .i64 1))))),.mk none (.mov 23 (.t 90))]
def f16r4:LA:=[.mk none (.bin 89 .add (.t 31) (.v (.k (.c (.int .i64 1))))),.mk none (.mov 31 (.t 89))]
def f16r5:LA:=[.mk none (.mov 83 (.t 5)),.mk none (.mov 84 (.t 6)),.mk none (.mov 85 (.t 8)),.mk none (.build 86 [(.int .i64 0),(.int .i64 0)] [(0,(1,(.t 84))),(1,(1,(.t 85)))]),.mk none (.bslice 87 64 2 [(.int .i64 0),(.int .i64 0)] 1 [(0,(.t 86))]),.mk none (.append 88 64 2 16 (.t 83) (.t 87)),.mk none (.mov 5 (.t 88))]
def f16b6:AQ:=(.cond (.t 82) (.region f16r5) .skip)
def f16r7:LA:=[.mk none (.mov 76 (.t 10)),.mk none (.mov 77 (.t 76)),.mk (some (77,true)) (.mov 78 (.t 11)),.mk (some (77,true)) (.mov 79 (.t 78)),.mk (some (79,false)) (.mov 80 (.t 12)),.mk (some (77,true)) (.pick 81 (.t 79) (.v (.k (.c (.bool true)))) (.t 80)),.mk none (.pick 82 (.t 77) (.t 81) (.v (.k (.c (.bool false)))))]
def f16b8:AQ:=(.seq (.region f16r7) f16b6)
def f16r9:LA:=[.mk none (.faddr 60 0 (.t 2)),.mk none (.load 61 1 false (.t 60)),.mk none (.bin 62 .eql (.t 61) (.v (.k (.c (.int .i64 3))))),.mk none (.mov 63 (.t 62)),.mk (some (63,true)) (.faddr 64 0 (.t 7)),.mk (some (63,true)) (.load 65 1 false (.t 64)),.mk (some (63,true)) (.faddr 66 3 (.t 2)),.mk (some (63,true)) (.load 67 1 false (.t 66)),.mk (some (63,true)) (.bin 68 .eql (.t 65) (.t 67)),.mk none (.pick 69 (.t 63) (.t 68) (.v (.k (.c (.bool false))))),.mk none (.mov 70 (.t 69)),.mk (some (70,true)) (.mov 71 (.t 9)),.mk (some (70,true)) (.faddr 72 4 (.t 2)),.mk (some (70,true)) (.load 73 1 false (.t 72)),.mk (some (70,true)) (.bin 74 .eql (.t 71) (.t 73)),.mk none (.pick 75 (.t 70) (.t 74) (.v (.k (.c (.bool false))))),.mk none (.mov 12 (.t 75))]
def f16b10:AQ:=(.seq (.region f16r9) f16b8)
def f16r11:LA:=[.mk none (.faddr 49 0 (.t 7)),.mk none (.load 50 1 false (.t 49)),.mk none (.faddr 51 1 (.t 2)),.mk none (.load 52 1 false (.t 51)),.mk none (.bin 53 .eql (.t 50) (.t 52)),.mk none (.mov 54 (.t 53)),.mk (some (54,true)) (.mov 55 (.t 9)),.mk (some (54,true)) (.faddr 56 2 (.t 2)),.mk (some (54,true)) (.load 57 1 false (.t 56)),.mk (some (54,true)) (.bin 58 .eql (.t 55) (.t 57)),.mk none (.pick 59 (.t 54) (.t 58) (.v (.k (.c (.bool false))))),.mk none (.mov 11 (.t 59))]
def f16b12:AQ:=(.seq (.region f16r11) f16b10)
def f16r13:LA:=[.mk none (.faddr 36 1 (.t 7)),.mk none (.load 37 1 false (.t 36)),.mk none (.mov 38 (.t 9)),.mk none (.call (some 39) 40 [(.t 37),(.t 38)]),.mk none (.mov 40 (.t 8)),.mk none (.bin 41 .eql (.t 39) (.t 40)),.mk none (.mov 42 (.t 41)),.mk (some (42,true)) (.mov 43 (.t 8)),.mk (some (42,true)) (.faddr 44 2 (.t 7)),.mk (some (42,true)) (.load 45 1 false (.t 44)),.mk (some (42,true)) (.len 46 (.t 45)),.mk (some (42,true)) (.bin 47 .lss (.t 43) (.t 46)),.mk none (.pick 48 (.t 42) (.t 47) (.v (.k (.c (.bool false))))),.mk none (.mov 10 (.t 48))]
def f16b14:AQ:=(.seq (.region f16r13) f16b12)
def f16r15:LA:=[.mk none (.mov 33 (.t 31)),.mk none (.iaddr 34 1 (.t 29) (.t 31)),.mk none (.load 35 1 false (.t 34)),.mk none (.mov 8 (.t 33)),.mk none (.mov 9 (.t 35))]
def f16b16:AQ:=(.seq (.region f16r15) f16b14)
def f16b17:AQ:=(.block 3 f16b16)
def f16b18:AQ:=(.seq f16b17 (.region f16r4))
def f16b19:AQ:=(.cond (.t 32) .skip (.exit 2))
def f16b20:AQ:=(.seq f16b19 f16b18)
def f16r21:LA:=[.mk none (.bin 32 .lss (.t 31) (.t 30))]
def f16b22:AQ:=(.seq (.region f16r21) f16b20)
def f16l23:AQ:=.loop [2,5,6,7,21,22,23,29,30,31] [2,5,7,88] f16b22
def f16b24:AQ:=(.block 2 f16l23)
def f16r25:LA:=[.mk none (.faddr 28 1 (.t 7)),.mk none (.load 29 1 false (.t 28)),.mk none (.len 30 (.t 29)),.mk none (.mov 31 (.v (.k (.c (.int .i64 0)))))]
def f16b26:AQ:=(.seq (.region f16r25) f16b24)
def f16r27:LA:=[.mk none (.mov 25 (.t 23)),.mk none (.iaddr 26 3 (.t 21) (.t 23)),.mk none (.load 27 3 true (.t 26)),.mk none (.alloc 7 53 [(.str []),(.list 0 (some true) []),(.list 0 (some true) [])]),.mk none (.mov 6 (.t 25)),.mk none (.store 3 (.t 7) (.t 27))]
def f16b28:AQ:=(.seq (.region f16r27) (.frz 7 f16b26))
def f16b29:AQ:=(.block 1 f16b28)
def f16b30:AQ:=(.seq f16b29 (.region f16r3))
def f16b31:AQ:=(.cond (.t 24) .skip (.exit 0))
def f16b32:AQ:=(.seq f16b31 f16b30)
def f16r33:LA:=[.mk none (.bin 24 .lss (.t 23) (.t 22))]
def f16b34:AQ:=(.seq (.region f16r33) f16b32)
def f16l35:AQ:=.loop [2,5,21,22,23] [2,5,88] f16b34
def f16b36:AQ:=(.block 0 f16l35)
def f16r37:LA:=[.mk none (.mov 21 (.t 1)),.mk none (.len 22 (.t 21)),.mk none (.mov 23 (.v (.k (.c (.int .i64 0)))))]
def f16b38:AQ:=(.seq (.region f16r37) f16b36)
def f16b39:AQ:=(.seq f16b38 f16b2)
def f16r40:LA:=[.mk none (.nilL 4 64 2)]
def f16b41:AQ:=(.seq (.region f16r40) .ret)
def f16b42:AQ:=(.cond (.t 20) f16b41 .skip)
def f16r43:LA:=[.mk none (.faddr 13 0 (.t 2)),.mk none (.load 14 1 false (.t 13)),.mk none (.bin 15 .leq (.t 14) (.v (.k (.c (.int .i64 0))))),.mk none (.mov 16 (.t 15)),.mk (some (16,false)) (.faddr 17 0 (.t 2)),.mk (some (16,false)) (.load 18 1 false (.t 17)),.mk (some (16,false)) (.bin 19 .geq (.t 18) (.v (.k (.c (.int .i64 5))))),.mk none (.pick 20 (.t 16) (.v (.k (.c (.bool true)))) (.t 19))]
def f16b44:AQ:=(.seq (.region f16r43) f16b42)
def f16b45:AQ:=(.seq f16b44 f16b39)
def f16r46:LA:=[.mk none (.nilL 5 64 2)]
def f16b47:AQ:=(.seq (.region f16r46) f16b45)
def f16r48:LA:=[.mk none (.box 2 46 (.t 0)),.mk none (.nilL 4 64 2)]
def f16b49:AQ:=(.seq (.region f16r48) (.frz 2 f16b47))
def f16:AQ:=f16b49
theorem hf16:zI Tryz.prog 16=some ⟨92,f16.erase,[(RX.t 4)]⟩:=by kernel_rfl
theorem okf16:f16.ok=true:=by kernel_rfl
def f13r1:LA:=[.mk none (.mov 13 (.t 5)),.mk none (.mov 14 (.t 6)),.mk none (.mov 2 (.t 13)),.mk none (.mov 3 (.t 14))]
def f13b2:AQ:=(.seq (.region f13r1) .ret)
def f13r3:LA:=[.mk none (.mov 8 (.t 0)),.mk none (.call (some 9) 37 [(.t 8)]),.mk none (.mov 7 (.t 9)),.mk none (.extr 10 (.t 7) 0),.mk none (.extr 11 (.t 7) 1),.mk none (.extr 12 (.t 7) 2),.mk none (.mov 4 (.t 10)),.mk none (.mov 5 (.t 11)),.mk none (.mov 6 (.t 12))]
def f13b4:AQ:=(.seq (.region f13r3) f13b2)
def f13r5:LA:=[.mk none (.mov 2 (.v (.k (.c (.int .i64 0))))),.mk none (.mov 3 (.v (.k (.c (.int .i64 0)))))]
def f13b6:AQ:=(.seq (.region f13r5) f13b4)
def f13:AQ:=f13b6
theorem hf13:zI Tryz.prog 13=some ⟨15,f13.erase,[(RX.t 2),(RX.t 3)]⟩:=by kernel_rfl
theorem okf13:f13.ok=true:=by kernel_rfl
def f14r1:LA:=[.mk none (.mov 25 (.t 0)),.mk none (.mov 26 (.t 6)),.mk none (.mov 27 (.t 1)),.mk none (.call (some 28) 38 [(.t 25),(.t 26),(.t 27)]),.mk none (.mov 4 (.t 28)),.mk none (.mov 5 (.v (.k (.c (.int .i64 0)))))]
def f14b2:AQ:=(.seq (.region f14r1) .ret)
def f14r3:LA:=[.mk none (.nilL 4 53 3),.mk none (.mov 5 (.v (.k (.c (.int .i64 4)))))]
def f14b4:AQ:=(.seq (.region f14r3) .ret)
def f14b5:AQ:=(.cond (.t 24) f14b4 .skip)
def f14r6:LA:=[.mk none (.mov 18 (.t 1)),.mk none (.bin 19 .lss (.t 18) (.v (.k (.c (.int .i64 0))))),.mk none (.mov 20 (.t 19)),.mk (some (20,false)) (.mov 21 (.t 1)),.mk (some (20,false)) (.mov 22 (.t 7)),.mk (some (20,false)) (.bin 23 .geq (.t 21) (.t 22)),.mk none (.pick 24 (.t 20) (.v (.k (.c (.bool true)))) (.t 23))]
def f14b7:AQ:=(.seq (.region f14r6) f14b5)
def f14b8:AQ:=(.seq f14b7 f14b2)
def f14r9:LA:=[.mk none (.mov 17 (.t 8)),.mk none (.nilL 4 53 3),.mk none (.mov 5 (.t 17))]
def f14b10:AQ:=(.seq (.region f14r9) .ret)
def f14b11:AQ:=(.cond (.t 16) f14b10 .skip)
def f14r12:LA:=[.mk none (.mov 15 (.t 8)),.mk none (.bin 16 .neq (.t 15) (.v (.k (.c (.int .i64 0)))))]
def f14b13:AQ:=(.seq (.region f14r12) f14b11)
def f14b14:AQ:=(.seq f14b13 f14b8)
def f14r15:LA:=[.mk none (.mov 10 (.t 0)),.mk none (.call (some 11) 37 [(.t 10)]),.mk none (.mov 9 (.t 11)),.mk none (.extr 12 (.t 9) 0),.mk none (.extr 13 (.t 9) 1),.mk none (.extr 14 (.t 9) 2),.mk none (.mov 6 (.t 12)),.mk none (.mov 7 (.t 13)),.mk none (.mov 8 (.t 14))]
def f14b16:AQ:=(.seq (.region f14r15) f14b14)
def f14r17:LA:=[.mk none (.nilL 4 53 3),.mk none (.mov 5 (.v (.k (.c (.int .i64 0)))))]
def f14b18:AQ:=(.seq (.region f14r17) f14b16)
def f14:AQ:=f14b18
theorem hf14:zI Tryz.prog 14=some ⟨29,f14.erase,[(RX.t 4),(RX.t 5)]⟩:=by kernel_rfl
theorem okf14:f14.ok=true:=by kernel_rfl
def f37r1:LA:=[.mk none (.mov 56 (.t 9)),.mk none (.mov 57 (.t 8)),.mk none (.mov 2 (.t 56)),.mk none (.mov 3 (.t 57)),.mk none (.mov 4 (.v (.k (.c (.int .i64 0)))))]
def f37b2:AQ:=(.seq (.region f37r1) .ret)
def f37r3:LA:=[.mk none (.bin 55 .add (.t 31) (.v (.k (.c (.int .i64 1))))),.mk none (.mov 31 (.t 55))]
def f37r4:LA:=[.mk none (.mov 48 (.t 9)),.mk none (.mov 49 (.t 12)),.mk none (.bslice 50 3 1 [(.int .i64 0)] 1 [(0,(.t 49))]),.mk none (.append 51 3 1 8 (.t 48) (.t 50)),.mk none (.mov 52 (.t 8)),.mk none (.mov 53 (.t 12)),.mk none (.bin 54 .mul (.t 52) (.t 53)),.mk none (.mov 9 (.t 51)),.mk none (.mov 8 (.t 54))]
def f37r5:LA:=[.mk none (.nilL 2 3 1),.mk none (.mov 3 (.v (.k (.c (.int .i64 0))))),.mk none (.mov 4 (.v (.k (.c (.int .i64 6)))))]
def f37b6:AQ:=(.seq (.region f37r5) .ret)
def f37b7:AQ:=(.cond (.t 47) f37b6 .skip)
def f37r8:LA:=[.mk none (.mov 40 (.t 13)),.mk none (.bin 41 .neq (.t 40) (.v (.k (.c (.int .i64 0))))),.mk none (.mov 42 (.t 41)),.mk (some (42,false)) (.mov 43 (.t 8)),.mk (some (42,false)) (.mov 44 (.t 12)),.mk (some (42,false)) (.bin 45 .mul (.t 43) (.t 44)),.mk (some (42,false)) (.bin 46 .gtr (.t 45) (.v (.k (.c (.int .i64 4096))))),.mk none (.pick 47 (.t 42) (.v (.k (.c (.bool true)))) (.t 46))]
def f37b9:AQ:=(.seq (.region f37r8) f37b7)
def f37b10:AQ:=(.seq f37b9 (.region f37r4))
def f37r11:LA:=[.mk none (.load 36 2 true (.t 11)),.mk none (.call (some 37) 77 [(.t 36)]),.mk none (.mov 35 (.t 37)),.mk none (.extr 38 (.t 35) 0),.mk none (.extr 39 (.t 35) 1),.mk none (.mov 12 (.t 38)),.mk none (.mov 13 (.t 39))]
def f37b12:AQ:=(.seq (.region f37r11) f37b10)
def f37r13:LA:=[.mk none (.iaddr 33 2 (.t 29) (.t 31)),.mk none (.load 34 2 true (.t 33)),.mk none (.alloc 11 58 [(.str []),(.list 0 (some true) [])]),.mk none (.store 2 (.t 11) (.t 34))]
def f37b14:AQ:=(.seq (.region f37r13) (.frz 11 f37b12))
def f37b15:AQ:=(.block 3 f37b14)
def f37b16:AQ:=(.seq f37b15 (.region f37r3))
def f37b17:AQ:=(.cond (.t 32) .skip (.exit 2))
def f37b18:AQ:=(.seq f37b17 f37b16)
def f37r19:LA:=[.mk none (.bin 32 .lss (.t 31) (.t 30))]
def f37b20:AQ:=(.seq (.region f37r19) f37b18)
def f37l21:AQ:=.loop [8,9,29,30,31] [9,51] f37b20
def f37b22:AQ:=(.block 2 f37l21)
def f37r23:LA:=[.mk none (.mov 29 (.t 0)),.mk none (.len 30 (.t 29)),.mk none (.mov 31 (.v (.k (.c (.int .i64 0)))))]
def f37b24:AQ:=(.seq (.region f37r23) f37b22)
def f37b25:AQ:=(.seq f37b24 f37b2)
def f37r26:LA:=[.mk none (.nilL 9 3 1)]
def f37b27:AQ:=(.seq (.region f37r26) f37b25)
def f37r28:LA:=[.mk none (.mov 8 (.v (.k (.c (.int .i64 1)))))]
def f37b29:AQ:=(.seq (.region f37r28) f37b27)
def f37r30:LA:=[.mk none (.bin 28 .add (.t 19) (.v (.k (.c (.int .i64 1))))),.mk none (.mov 19 (.t 28))]
def f37r31:LA:=[.mk none (.mov 27 (.t 7)),.mk none (.nilL 2 3 1),.mk none (.mov 3 (.v (.k (.c (.int .i64 0))))),.mk none (.mov 4 (.t 27))]
def f37b32:AQ:=(.seq (.region f37r31) .ret)
def f37b33:AQ:=(.cond (.t 26) f37b32 .skip)
def f37r34:LA:=[.mk none (.mov 25 (.t 7)),.mk none (.bin 26 .neq (.t 25) (.v (.k (.c (.int .i64 0)))))]
def f37b35:AQ:=(.seq (.region f37r34) f37b33)
def f37r36:LA:=[.mk none (.load 23 2 true (.t 6)),.mk none (.call (some 24) 55 [(.t 23)]),.mk none (.mov 7 (.t 24))]
def f37b37:AQ:=(.seq (.region f37r36) f37b35)
def f37r38:LA:=[.mk none (.iaddr 21 2 (.t 17) (.t 19)),.mk none (.load 22 2 true (.t 21)),.mk none (.alloc 6 58 [(.str []),(.list 0 (some true) [])]),.mk none (.store 2 (.t 6) (.t 22))]
def f37b39:AQ:=(.seq (.region f37r38) (.frz 6 f37b37))
def f37b40:AQ:=(.block 1 f37b39)
def f37b41:AQ:=(.seq f37b40 (.region f37r30))
def f37b42:AQ:=(.cond (.t 20) .skip (.exit 0))
def f37b43:AQ:=(.seq f37b42 f37b41)
def f37r44:LA:=[.mk none (.bin 20 .lss (.t 19) (.t 18))]
def f37b45:AQ:=(.seq (.region f37r44) f37b43)
def f37l46:AQ:=.loop [0,17,18,19] [] f37b45
def f37b47:AQ:=(.block 0 f37l46)
def f37r48:LA:=[.mk none (.mov 17 (.t 0)),.mk none (.len 18 (.t 17)),.mk none (.mov 19 (.v (.k (.c (.int .i64 0)))))]
def f37b49:AQ:=(.seq (.region f37r48) f37b47)
def f37b50:AQ:=(.seq f37b49 f37b29)
def f37r51:LA:=[.mk none (.nilL 2 3 1),.mk none (.mov 3 (.v (.k (.c (.int .i64 0))))),.mk none (.mov 4 (.v (.k (.c (.int .i64 6)))))]
def f37b52:AQ:=(.seq (.region f37r51) .ret)
def f37b53:AQ:=(.cond (.t 16) f37b52 .skip)
def f37r54:LA:=[.mk none (.mov 14 (.t 0)),.mk none (.len 15 (.t 14)),.mk none (.bin 16 .gtr (.t 15) (.v (.k (.c (.int .i64 8)))))]
def f37b55:AQ:=(.seq (.region f37r54) f37b53)
def f37b56:AQ:=(.seq f37b55 f37b50)
def f37r57:LA:=[.mk none (.nilL 2 3 1),.mk none (.mov 3 (.v (.k (.c (.int .i64 0))))),.mk none (.mov 4 (.v (.k (.c (.int .i64 0)))))]
def f37b58:AQ:=(.seq (.region f37r57) f37b56)
def f37:AQ:=f37b58
theorem hf37:zI Tryz.prog 37=some ⟨58,f37.erase,[(RX.t 2),(RX.t 3),(RX.t 4)]⟩:=by kernel_rfl
theorem okf37:f37.ok=true:=by kernel_rfl
def f38r1:LA:=[.mk none (.mov 42 (.t 7)),.mk none (.mov 6 (.t 42))]
def f38b2:AQ:=(.seq (.region f38r1) .ret)
def f38r3:LA:=[.mk none (.mov 17 (.t 8)),.mk none (.bin 18 .sub (.t 17) (.v (.k (.c (.int .i64 1))))),.mk none (.mov 8 (.t 18))]
def f38r4:LA:=[.mk none (.mov 36 (.t 2)),.mk none (.mov 37 (.t 1)),.mk none (.mov 38 (.t 8)),.mk none (.iaddr 39 1 (.t 37) (.t 38)),.mk none (.load 40 1 false (.t 39)),.mk none (.bin 41 .quo (.t 36) (.t 40)),.mk none (.mov 2 (.t 41))]
def f38r5o0:AI:=.mk none (.mov 20 (.t 7))
def f38r5o1:AI:=.mk none (.mov 21 (.t 8))
def f38r5o2:AI:=.mk none (.mov 22 (.t 0))
def f38r5o3:AI:=.mk none (.mov 23 (.t 8))
def f38r5o4:AI:=.mk none (.iaddr 24 2 (.t 22) (.t 23))
def f38r5o5:AI:=.mk none (.load 25 2 true (.t 24))
def f38r5o6:AI:=.mk none (.mov 26 (.t 2))
def f38r5o7:AI:=.mk none (.mov 27 (.t 1))
def f38r5o8:AI:=.mk none (.mov 28 (.t 8))
def f38r5o9:AI:=.mk none (.iaddr 29 1 (.t 27) (.t 28))
def f38r5o10:AI:=.mk none (.load 30 1 false (.t 29))
def f38r5o11:AI:=.mk none (.bin 31 .rem (.t 26) (.t 30))
def f38r5o12:AI:=.mk none (.call (some 32) 78 [(.t 25),(.t 31)])
def f38r5o13:AI:=.mk none (.mov 19 (.t 32))
def f38r5o14:AI:=.mk none (.extr 33 (.t 19) 0)
def f38r5o15:AI:=.mk none (.extr 34 (.t 19) 1)
def f38r5o16:AI:=.mk none (.iaddr 35 3 (.t 20) (.t 21))
def f38r5o17:AI:=.mk none (.store 3 (.t 35) (.t 33))
def f38r5:LA:=[f38r5o0,f38r5o1,f38r5o2,f38r5o3,f38r5o4,f38r5o5,f38r5o6,f38r5o7,f38r5o8,f38r5o9,f38r5o10,f38r5o11,f38r5o12,f38r5o13,f38r5o14,f38r5o15,f38r5o16,f38r5o17]
theorem zlX:oL f38r5 [[],[],[],[],[2,3],[4],[],[],[],[7,8],[9],[6,10],[5,11],[12],[13],[13],[0,1,0,1,2,3,4,5,6,7,8,9,10,11,12,13,14],[16,14,12,0,1,2,3,4,5,6,7,8,9,10,11,12,13,14]]=(.one f38r5o0 (.one f38r5o1 (.one f38r5o2 (.one f38r5o3 (.one f38r5o4 (.one f38r5o5 (.one f38r5o6 (.one f38r5o7 (.one f38r5o8 (.one f38r5o9 (.one f38r5o10 (.one f38r5o11 (.one f38r5o12 (.one f38r5o13 (.one f38r5o14 (.one f38r5o16 (.alt (.one f38r5o15 (.one f38r5o17 .done)) (.alt (.one f38r5o17 (.one f38r5o15 .done)) .top)))))))))))))))))):=by kernel_rfl
def f38b6:AQ:=(.seq (.tree f38r5 [[],[],[],[],[2,3],[4],[],[],[],[7,8],[9],[6,10],[5,11],[12],[13],[13],[0,1,0,1,2,3,4,5,6,7,8,9,10,11,12,13,14],[16,14,12,0,1,2,3,4,5,6,7,8,9,10,11,12,13,14]]) (.keep [0,1,2,7,8] [11,32,33000,33001,33002] (.region f38r4)))
def f38b7:AQ:=(.block 1 f38b6)
def f38b8:AQ:=(.seq f38b7 (.region f38r3))
def f38b9:AQ:=(.cond (.t 16) .skip (.exit 0))
def f38r10:LA:=[.mk none (.mov 15 (.t 8)),.mk none (.bin 16 .geq (.t 15) (.v (.k (.c (.int .i64 0)))))]
def f38b11:AQ:=(.seq (.region f38r10) f38b9)
def f38b12:AQ:=(.seq f38b11 f38b8)
def f38l13:AQ:=.loop [0,1,2,7,8] [11,32,33000,33001,33002] f38b12
def f38b14:AQ:=(.block 0 f38l13)
def f38r15:LA:=[.mk none (.mov 12 (.t 0)),.mk none (.len 13 (.t 12)),.mk none (.bin 14 .sub (.t 13) (.v (.k (.c (.int .i64 1))))),.mk none (.mov 8 (.t 14))]
def f38b16:AQ:=(.seq (.region f38r15) f38b14)
def f38b17:AQ:=(.seq f38b16 f38b2)
def f38r18:LA:=[.mk none (.mov 9 (.t 0)),.mk none (.len 10 (.t 9)),.mk none (.mkslice 11 53 3 64 [(.str []),(.list 0 (some true) []),(.list 0 (some true) [])] (.t 10) (.t 10)),.mk none (.mov 7 (.t 11))]
def f38b19:AQ:=(.seq (.region f38r18) f38b17)
def f38r20:LA:=[.mk none (.nilL 6 53 3)]
def f38b21:AQ:=(.seq (.region f38r20) f38b19)
def f38:AQ:=f38b21
theorem hf38:zI Tryz.prog 38=some ⟨43,f38.erase,[(RX.t 6)]⟩:=by kernel_rfl
theorem okf38:f38.ok=true:=by kernel_rfl
def f35r1:LA:=[.mk none (.mov 15 (.t 3)),.mk none (.mov 2 (.t 15))]
def f35b2:AQ:=(.seq (.region f35r1) .ret)
def f35r3:LA:=[.mk none (.mov 6 (.t 0)),.mk none (.mov 7 (.t 0)),.mk none (.bin 8 .sub (.t 7) (.v (.k (.c (.int .u64 1))))),.mk none (.bin 9 .and (.t 6) (.t 8)),.mk none (.mov 0 (.t 9))]
def f35r4:LA:=[.mk none (.mov 10 (.t 3)),.mk none (.mov 11 (.t 0)),.mk none (.call (some 12) 75 [(.t 11)]),.mk none (.bslice 13 3 1 [(.int .i64 0)] 1 [(0,(.t 12))]),.mk none (.append 14 3 1 8 (.t 10) (.t 13)),.mk none (.mov 3 (.t 14))]
def f35b5:AQ:=(.block 1 (.region f35r4))
def f35b6:AQ:=(.seq f35b5 (.region f35r3))
def f35b7:AQ:=(.cond (.t 5) .skip (.exit 0))
def f35r8:LA:=[.mk none (.mov 4 (.t 0)),.mk none (.bin 5 .neq (.t 4) (.v (.k (.c (.int .u64 0)))))]
def f35b9:AQ:=(.seq (.region f35r8) f35b7)
def f35b10:AQ:=(.seq f35b9 f35b6)
def f35l11:AQ:=.loop [0,3] [3,14] f35b10
def f35b12:AQ:=(.block 0 f35l11)
def f35b13:AQ:=(.seq f35b12 f35b2)
def f35r14:LA:=[.mk none (.nilL 3 3 1)]
def f35b15:AQ:=(.seq (.region f35r14) f35b13)
def f35r16:LA:=[.mk none (.nilL 2 3 1)]
def f35b17:AQ:=(.seq (.region f35r16) f35b15)
def f35:AQ:=f35b17
theorem hf35:zI Tryz.prog 35=some ⟨16,f35.erase,[(RX.t 2)]⟩:=by kernel_rfl
theorem okf35:f35.ok=true:=by kernel_rfl
def f36r1:LA:=[.mk none (.mov 5 (.t 0)),.mk none (.mov 6 (.t 1)),.mk none (.call (some 7) 76 [(.t 5),(.t 6)]),.mk none (.bin 8 .geq (.t 7) (.v (.k (.c (.int .i64 0))))),.mk none (.mov 4 (.t 8))]
def f36b2:AQ:=(.seq (.region f36r1) .ret)
def f36r3:LA:=[.mk none (.mov 4 (.v (.k (.c (.bool false)))))]
def f36b4:AQ:=(.seq (.region f36r3) f36b2)
def f36:AQ:=f36b4
theorem hf36:zI Tryz.prog 36=some ⟨9,f36.erase,[(RX.t 4)]⟩:=by kernel_rfl
theorem okf36:f36.ok=true:=by kernel_rfl
def f76r1:LA:=[.mk none (.mov 4 (.v (.k (.c (.int .i64 (-1))))))]
def f76b2:AQ:=(.seq (.region f76r1) .ret)
def f76r3:LA:=[.mk none (.bin 18 .add (.t 8) (.v (.k (.c (.int .i64 1))))),.mk none (.mov 8 (.t 18))]
def f76r4:LA:=[.mk none (.mov 17 (.t 5)),.mk none (.mov 4 (.t 17))]
def f76b5:AQ:=(.seq (.region f76r4) .ret)
def f76b6:AQ:=(.cond (.t 16) f76b5 .skip)
def f76r7:LA:=[.mk none (.mov 11 (.t 1)),.mk none (.mov 12 (.t 0)),.mk none (.mov 13 (.t 5)),.mk none (.iaddr 14 1 (.t 12) (.t 13)),.mk none (.load 15 1 false (.t 14)),.mk none (.bin 16 .eql (.t 11) (.t 15))]
def f76b8:AQ:=(.seq (.region f76r7) f76b6)
def f76r9:LA:=[.mk none (.mov 10 (.t 8)),.mk none (.mov 5 (.t 10))]
def f76b10:AQ:=(.seq (.region f76r9) f76b8)
def f76b11:AQ:=(.block 1 f76b10)
def f76b12:AQ:=(.seq f76b11 (.region f76r3))
def f76b13:AQ:=(.cond (.t 9) .skip (.exit 0))
def f76b14:AQ:=(.seq f76b13 f76b12)
def f76r15:LA:=[.mk none (.bin 9 .lss (.t 8) (.t 7))]
def f76b16:AQ:=(.seq (.region f76r15) f76b14)
def f76l17:AQ:=.loop [0,1,7,8] [] f76b16
def f76b18:AQ:=(.block 0 f76l17)
def f76r19:LA:=[.mk none (.mov 6 (.t 0)),.mk none (.len 7 (.t 6)),.mk none (.mov 8 (.v (.k (.c (.int .i64 0)))))]
def f76b20:AQ:=(.seq (.region f76r19) f76b18)
def f76b21:AQ:=(.seq f76b20 f76b2)
def f76r22:LA:=[.mk none (.mov 4 (.v (.k (.c (.int .i64 0)))))]
def f76b23:AQ:=(.seq (.region f76r22) f76b21)
def f76:AQ:=f76b23
theorem hf76:zI Tryz.prog 76=some ⟨19,f76.erase,[(RX.t 4)]⟩:=by kernel_rfl
theorem okf76:f76.ok=true:=by kernel_rfl
def f33r1:LA:=[.mk none (.mov 78 (.t 10)),.mk none (.mov 2 (.t 78))]
def f33b2:AQ:=(.seq (.region f33r1) .ret)
def f33r3:LA:=[.mk none (.mov 76 (.t 10)),.mk none (.call (some 77) 69 [(.t 76),(.v (.k (.c (.fn 70 []))))])]
def f33b4:AQ:=(.seq (.region f33r3) f33b2)
def f33r5:LA:=[.mk none (.bin 75 .add (.t 66) (.v (.k (.c (.int .i64 1))))),.mk none (.mov 66 (.t 75))]
def f33r6:LA:=[.mk none (.mov 70 (.t 10)),.mk none (.mov 71 (.t 12)),.mk none (.call (some 72) 35 [(.t 71)]),.mk none (.bslice 73 30 1 [(.list 0 (some true) [])] 1 [(0,(.t 72))]),.mk none (.append 74 30 1 24 (.t 70) (.t 73)),.mk none (.mov 10 (.t 74))]
def f33r7:LA:=[.mk none (.iaddr 68 1 (.t 64) (.t 66)),.mk none (.load 69 1 false (.t 68)),.mk none (.mov 12 (.t 69))]
def f33b8:AQ:=(.seq (.region f33r7) (.region f33r6))
def f33b9:AQ:=(.block 7 f33b8)
def f33b10:AQ:=(.seq f33b9 (.region f33r5))
def f33b11:AQ:=(.cond (.t 67) .skip (.exit 6))
def f33b12:AQ:=(.seq f33b11 f33b10)
def f33r13:LA:=[.mk none (.bin 67 .lss (.t 66) (.t 65))]
def f33b14:AQ:=(.seq (.region f33r13) f33b12)
def f33l15:AQ:=.loop [10,64,65,66] [3,10,26,63,74] f33b14
def f33b16:AQ:=(.block 6 f33l15)
def f33r17:LA:=[.mk none (.mov 64 (.t 3)),.mk none (.len 65 (.t 64)),.mk none (.mov 66 (.v (.k (.c (.int .i64 0)))))]
def f33b18:AQ:=(.seq (.region f33r17) f33b16)
def f33b19:AQ:=(.seq f33b18 f33b4)
def f33r20:LA:=[.mk none (.nilL 10 30 1)]
def f33b21:AQ:=(.seq (.region f33r20) f33b19)
def f33r22:LA:=[.mk none (.mov 33 (.t 6)),.mk none (.bin 34 .sub (.t 33) (.v (.k (.c (.int .u64 1))))),.mk none (.faddr 35 2 (.t 1)),.mk none (.load 36 1 false (.t 35)),.mk none (.bin 37 .and (.t 34) (.t 36)),.mk none (.mov 6 (.t 37))]
def f33r23:LA:=[.mk none (.mov 60 (.t 3)),.mk none (.mov 61 (.t 6)),.mk none (.bslice 62 71 1 [(.int .u64 0)] 1 [(0,(.t 61))]),.mk none (.append 63 71 1 8 (.t 60) (.t 62)),.mk none (.mov 3 (.t 63))]
def f33b24:AQ:=(.cond (.t 59) (.region f33r23) .skip)
def f33r25:LA:=[.mk none (.mov 59 (.t 7))]
def f33b26:AQ:=(.seq (.region f33r25) f33b24)
def f33r27:LA:=[.mk none (.bin 58 .add (.t 44) (.v (.k (.c (.int .i64 1))))),.mk none (.mov 44 (.t 58))]
def f33r28:LA:=[.mk none (.mov 48 (.t 7)),.mk none (.mov 49 (.t 48)),.mk (some (49,true)) (.mov 50 (.t 5)),.mk (some (49,true)) (.mov 51 (.t 6)),.mk (some (49,true)) (.mov 52 (.t 9)),.mk (some (49,true)) (.bin 53 .shl (.v (.k (.c (.int .u64 1)))) (.t 52)),.mk (some (49,true)) (.bin 54 .andNot (.t 51) (.t 53)),.mk (some (49,true)) (.callv (some 55) (.t 50) [(.t 54)]),.mk (some (49,true)) (.un 56 .not (.t 55)),.mk none (.pick 57 (.t 49) (.t 56) (.v (.k (.c (.bool false))))),.mk none (.mov 7 (.t 57))]
def f33r29:LA:=[.mk none (.iaddr 46 1 (.t 42) (.t 44)),.mk none (.load 47 1 false (.t 46)),.mk none (.mov 9 (.t 47))]
def f33b30:AQ:=(.seq (.region f33r29) (.region f33r28))
def f33b31:AQ:=(.block 5 f33b30)
def f33b32:AQ:=(.seq f33b31 (.region f33r27))
def f33b33:AQ:=(.cond (.t 45) .skip (.exit 4))
def f33b34:AQ:=(.seq f33b33 f33b32)
def f33r35:LA:=[.mk none (.bin 45 .lss (.t 44) (.t 43))]
def f33b36:AQ:=(.seq (.region f33r35) f33b34)
def f33l37:AQ:=.loop [1,3,5,6,7,42,43,44] [1,3,26,40,42,63,41000,41001,41002,43000,43001,43002] f33b36
def f33b38:AQ:=(.block 4 f33l37)
def f33r39:LA:=[.mk none (.mov 41 (.t 6)),.mk none (.call (some 42) 35 [(.t 41)]),.mk none (.len 43 (.t 42)),.mk none (.mov 44 (.v (.k (.c (.int .i64 0)))))]
def f33b40:AQ:=(.seq (.region f33r39) f33b38)
def f33b41:AQ:=(.seq f33b40 f33b26)
def f33r42:LA:=[.mk none (.mov 38 (.t 5)),.mk none (.mov 39 (.t 6)),.mk none (.callv (some 40) (.t 38) [(.t 39)]),.mk none (.mov 7 (.t 40))]
def f33b43:AQ:=(.seq (.region f33r42) f33b41)
def f33b44:AQ:=(.block 3 f33b43)
def f33b45:AQ:=(.seq f33b44 (.region f33r22))
def f33b46:AQ:=(.cond (.t 32) .skip (.exit 2))
def f33r47:LA:=[.mk none (.mov 31 (.t 6)),.mk none (.bin 32 .neq (.t 31) (.v (.k (.c (.int .u64 0)))))]
def f33b48:AQ:=(.seq (.region f33r47) f33b46)
def f33b49:AQ:=(.seq f33b48 f33b45)
def f33l50:AQ:=.loop [1,3,5,6] [1,3,26,63] f33b49
def f33b51:AQ:=(.block 2 f33l50)
def f33r52:LA:=[.mk none (.faddr 29 2 (.t 1)),.mk none (.load 30 1 false (.t 29)),.mk none (.mov 6 (.t 30))]
def f33b53:AQ:=(.seq (.region f33r52) f33b51)
def f33b54:AQ:=(.seq f33b53 f33b21)
def f33r55:LA:=[.mk none (.mkfn 28 66 [(.t 1)]),.mk none (.mov 5 (.t 28))]
def f33b56:AQ:=(.seq (.region f33r55) f33b54)
def f33r57:LA:=[.mk none (.bin 27 .add (.t 13) (.v (.k (.c (.int .i64 1))))),.mk none (.mov 13 (.t 27))]
def f33r58:LA:=[.mk none (.mov 22 (.t 3)),.mk none (.mov 23 (.t 4)),.mk none (.bin 24 .shl (.v (.k (.c (.int .u64 1)))) (.t 23)),.mk none (.bslice 25 71 1 [(.int .u64 0)] 1 [(0,(.t 24))]),.mk none (.append 26 71 1 8 (.t 22) (.t 25)),.mk none (.mov 3 (.t 26))]
def f33b59:AQ:=(.cond (.t 21) (.region f33r58) .skip)
def f33r60:LA:=[.mk none (.faddr 16 1 (.t 1)),.mk none (.load 17 1 false (.t 16)),.mk none (.mov 18 (.t 4)),.mk none (.bin 19 .shr (.t 17) (.t 18)),.mk none (.bin 20 .and (.t 19) (.v (.k (.c (.int .u64 1))))),.mk none (.bin 21 .eql (.t 20) (.v (.k (.c (.int .u64 1)))))]
def f33b61:AQ:=(.seq (.region f33r60) f33b59)
def f33r62:LA:=[.mk none (.mov 15 (.t 13)),.mk none (.mov 4 (.t 15))]
def f33b63:AQ:=(.seq (.region f33r62) f33b61)
def f33b64:AQ:=(.block 1 f33b63)
def f33b65:AQ:=(.seq f33b64 (.region f33r57))
def f33b66:AQ:=(.cond (.t 14) .skip (.exit 0))
def f33b67:AQ:=(.seq f33b66 f33b65)
def f33r68:LA:=[.mk none (.bin 14 .lss (.t 13) (.v (.k (.c (.int .i64 64)))))]
def f33b69:AQ:=(.seq (.region f33r68) f33b67)
def f33l70:AQ:=.loop [1,3,13] [1,3,26,63] f33b69
def f33b71:AQ:=(.block 0 f33l70)
def f33r72:LA:=[.mk none (.mov 13 (.v (.k (.c (.int .i64 0)))))]
def f33b73:AQ:=(.seq (.region f33r72) f33b71)
def f33b74:AQ:=(.seq f33b73 f33b56)
def f33r75:LA:=[.mk none (.nilL 3 71 1)]
def f33b76:AQ:=(.seq (.region f33r75) f33b74)
def f33r77:LA:=[.mk none (.box 1 73 (.t 0)),.mk none (.nilL 2 30 1)]
def f33b78:AQ:=(.seq (.region f33r77) (.frz 1 f33b76))
def f33:AQ:=f33b78
theorem hf33:zI Tryz.prog 33=some ⟨79,f33.erase,[(RX.t 2)]⟩:=by kernel_rfl
theorem okf33:f33.ok=true:=by kernel_rfl
def f66r1:LA:=[.mk none (.faddr 4 0 (.t 1)),.mk none (.load 5 1 false (.t 4)),.mk none (.mkfn 6 68 [(.t 2)]),.mk none (.call (some 7) 67 [(.t 5),(.t 6)]),.mk none (.un 8 .not (.t 7)),.mk none (.mov 3 (.t 8))]
def f66b2:AQ:=(.seq (.region f66r1) .ret)
def f66r3:LA:=[.mk none (.box 2 71 (.t 0)),.mk none (.mov 3 (.v (.k (.c (.bool false)))))]
def f66b4:AQ:=(.seq (.region f66r3) (.frz 2 f66b2))
def f66:AQ:=f66b4
theorem hf66:zI Tryz.prog 66=some ⟨9,f66.erase,[(RX.t 3)]⟩:=by kernel_rfl
theorem okf66:f66.ok=true:=by kernel_rfl
def f67r1:LA:=[.mk none (.mov 5 (.t 0)),.mk none (.mov 6 (.t 1)),.mk none (.call (some 7) 105 [(.t 5),(.t 6)]),.mk none (.bin 8 .geq (.t 7) (.v (.k (.c (.int .i64 0))))),.mk none (.mov 4 (.t 8))]
def f67b2:AQ:=(.seq (.region f67r1) .ret)
def f67r3:LA:=[.mk none (.mov 4 (.v (.k (.c (.bool false)))))]
def f67b4:AQ:=(.seq (.region f67r3) f67b2)
def f67:AQ:=f67b4
theorem hf67:zI Tryz.prog 67=some ⟨9,f67.erase,[(RX.t 4)]⟩:=by kernel_rfl
theorem okf67:f67.ok=true:=by kernel_rfl
def f68r1:LA:=[.mk none (.mov 4 (.t 0)),.mk none (.load 5 1 false (.t 1)),.mk none (.bin 6 .and (.t 4) (.t 5)),.mk none (.bin 7 .eql (.t 6) (.v (.k (.c (.int .u64 0))))),.mk none (.mov 3 (.t 7))]
def f68b2:AQ:=(.seq (.region f68r1) .ret)
def f68r3:LA:=[.mk none (.mov 3 (.v (.k (.c (.bool false)))))]
def f68b4:AQ:=(.seq (.region f68r3) f68b2)
def f68:AQ:=f68b4
theorem hf68:zI Tryz.prog 68=some ⟨8,f68.erase,[(RX.t 3)]⟩:=by kernel_rfl
theorem okf68:f68.ok=true:=by kernel_rfl
def f105r1:LA:=[.mk none (.mov 4 (.v (.k (.c (.int .i64 (-1))))))]
def f105b2:AQ:=(.seq (.region f105r1) .ret)
def f105r3:LA:=[.mk none (.bin 18 .add (.t 8) (.v (.k (.c (.int .i64 1))))),.mk none (.mov 8 (.t 18))]
def f105r4:LA:=[.mk none (.mov 17 (.t 5)),.mk none (.mov 4 (.t 17))]
def f105b5:AQ:=(.seq (.region f105r4) .ret)
def f105b6:AQ:=(.cond (.t 16) f105b5 .skip)
def f105r7:LA:=[.mk none (.mov 11 (.t 1)),.mk none (.mov 12 (.t 0)),.mk none (.mov 13 (.t 5)),.mk none (.iaddr 14 1 (.t 12) (.t 13)),.mk none (.load 15 1 false (.t 14)),.mk none (.callv (some 16) (.t 11) [(.t 15)])]
def f105b8:AQ:=(.seq (.region f105r7) f105b6)
def f105r9:LA:=[.mk none (.mov 10 (.t 8)),.mk none (.mov 5 (.t 10))]
def f105b10:AQ:=(.seq (.region f105r9) f105b8)
def f105b11:AQ:=(.block 1 f105b10)
def f105b12:AQ:=(.seq f105b11 (.region f105r3))
def f105b13:AQ:=(.cond (.t 9) .skip (.exit 0))
def f105b14:AQ:=(.seq f105b13 f105b12)
def f105r15:LA:=[.mk none (.bin 9 .lss (.t 8) (.t 7))]
def f105b16:AQ:=(.seq (.region f105r15) f105b14)
def f105l17:AQ:=.loop [0,1,7,8] [] f105b16
def f105b18:AQ:=(.block 0 f105l17)
def f105r19:LA:=[.mk none (.mov 6 (.t 0)),.mk none (.len 7 (.t 6)),.mk none (.mov 8 (.v (.k (.c (.int .i64 0)))))]
def f105b20:AQ:=(.seq (.region f105r19) f105b18)
def f105b21:AQ:=(.seq f105b20 f105b2)
def f105r22:LA:=[.mk none (.mov 4 (.v (.k (.c (.int .i64 0)))))]
def f105b23:AQ:=(.seq (.region f105r22) f105b21)
def f105:AQ:=f105b23
theorem hf105:zI Tryz.prog 105=some ⟨19,f105.erase,[(RX.t 4)]⟩:=by kernel_rfl
theorem okf105:f105.ok=true:=by kernel_rfl
def f34r1:LA:=[.mk none (.mov 27 (.t 7)),.mk none (.call (some 28) 74 [(.t 27)]),.mk none (.mov 6 (.t 28))]
def f34b2:AQ:=(.seq (.region f34r1) .ret)
def f34r3:LA:=[.mk none (.mov 25 (.t 7)),.mk none (.call (some 26) 72 [(.t 25),(.v (.k (.c (.fn 73 []))))])]
def f34b4:AQ:=(.seq (.region f34r3) f34b2)
def f34r5:LA:=[.mk none (.bin 24 .add (.t 12) (.v (.k (.c (.int .i64 1))))),.mk none (.mov 12 (.t 24))]
def f34r6:LA:=[.mk none (.mov 16 (.t 7)),.mk none (.mov 17 (.t 0)),.mk none (.mov 18 (.t 9)),.mk none (.iaddr 19 8 (.t 17) (.t 18)),.mk none (.load 20 8 true (.t 19)),.mk none (.mov 21 (.t 2)),.mk none (.call (some 22) 16 [(.t 20),(.t 21)]),.mk none (.append 23 64 2 16 (.t 16) (.t 22)),.mk none (.mov 7 (.t 23))]
def f34r7:LA:=[.mk none (.iaddr 14 1 (.t 10) (.t 12)),.mk none (.load 15 1 false (.t 14)),.mk none (.mov 9 (.t 15))]
def f34b8:AQ:=(.seq (.region f34r7) (.region f34r6))
def f34b9:AQ:=(.block 1 f34b8)
def f34b10:AQ:=(.seq f34b9 (.region f34r5))
def f34b11:AQ:=(.cond (.t 13) .skip (.exit 0))
def f34b12:AQ:=(.seq f34b11 f34b10)
def f34r13:LA:=[.mk none (.bin 13 .lss (.t 12) (.t 11))]
def f34b14:AQ:=(.seq (.region f34r13) f34b12)
def f34l15:AQ:=.loop [0,2,7,10,11,12] [7,23] f34b14
def f34b16:AQ:=(.block 0 f34l15)
def f34r17:LA:=[.mk none (.mov 10 (.t 1)),.mk none (.len 11 (.t 10)),.mk none (.mov 12 (.v (.k (.c (.int .i64 0)))))]
def f34b18:AQ:=(.seq (.region f34r17) f34b16)
def f34b19:AQ:=(.seq f34b18 f34b4)
def f34r20:LA:=[.mk none (.nilL 7 64 2)]
def f34b21:AQ:=(.seq (.region f34r20) f34b19)
def f34r22:LA:=[.mk none (.nilL 6 64 2)]
def f34b23:AQ:=(.seq (.region f34r22) f34b21)
def f34:AQ:=f34b23
theorem hf34:zI Tryz.prog 34=some ⟨29,f34.erase,[(RX.t 6)]⟩:=by kernel_rfl
theorem okf34:f34.ok=true:=by kernel_rfl
def f10r1:LA:=[.mk none (.mov 67 (.t 10)),.mk none (.mov 4 (.t 67)),.mk none (.mov 5 (.v (.k (.c (.int .i64 0)))))]
def f10b2:AQ:=(.seq (.region f10r1) .ret)
def f10r3:LA:=[.mk none (.bin 66 .add (.t 51) (.v (.k (.c (.int .i64 1))))),.mk none (.mov 51 (.t 66))]
def f10r4:LA:=[.mk none (.mov 57 (.t 10)),.mk none (.mov 58 (.t 15)),.mk none (.mov 59 (.t 0)),.mk none (.mov 60 (.t 15)),.mk none (.mov 61 (.t 8)),.mk none (.call (some 62) 34 [(.t 59),(.t 60),(.t 61)]),.mk none (.build 63 [(.list 0 (some true) []),(.list 0 (some true) []),(.bool false)] [(0,(1,(.t 58))),(1,(1,(.t 62)))]),.mk none (.bslice 64 33 3 [(.list 0 (some true) []),(.list 0 (some true) []),(.bool false)] 1 [(0,(.t 63))]),.mk none (.append 65 33 3 56 (.t 57) (.t 64)),.mk none (.mov 10 (.t 65))]
def f10r5:LA:=[.mk none (.mov 55 (.t 14)),.mk none (.bslice 56 3 1 [(.int .i64 0)] 1 [(0,(.t 55))]),.mk none (.mov 15 (.t 56))]
def f10b6:AQ:=(.seq (.region f10r5) (.region f10r4))
def f10r7:LA:=[.mk none (.iaddr 53 1 (.t 49) (.t 51)),.mk none (.load 54 1 false (.t 53)),.mk none (.mov 14 (.t 54))]
def f10b8:AQ:=(.seq (.region f10r7) f10b6)
def f10b9:AQ:=(.block 3 f10b8)
def f10b10:AQ:=(.seq f10b9 (.region f10r3))
def f10b11:AQ:=(.cond (.t 52) .skip (.exit 2))
def f10b12:AQ:=(.seq f10b11 f10b10)
def f10r13:LA:=[.mk none (.bin 52 .lss (.t 51) (.t 50))]
def f10b14:AQ:=(.seq (.region f10r13) f10b12)
def f10l15:AQ:=.loop [0,8,10,49,50,51] [10,19,27,45,49,65,20000,20001,20002,28000,28001,28002,50000,50001,50002] f10b14
def f10b16:AQ:=(.block 2 f10l15)
def f10r17:LA:=[.mk none (.faddr 47 2 (.t 6)),.mk none (.load 48 1 false (.t 47)),.mk none (.call (some 49) 35 [(.t 48)]),.mk none (.len 50 (.t 49)),.mk none (.mov 51 (.v (.k (.c (.int .i64 0)))))]
def f10b18:AQ:=(.seq (.region f10r17) f10b16)
def f10b19:AQ:=(.seq f10b18 f10b2)
def f10r20:LA:=[.mk none (.bin 46 .add (.t 33) (.v (.k (.c (.int .i64 1))))),.mk none (.mov 33 (.t 46))]
def f10r21:LA:=[.mk none (.mov 37 (.t 10)),.mk none (.mov 38 (.t 12)),.mk none (.mov 39 (.t 0)),.mk none (.mov 40 (.t 12)),.mk none (.mov 41 (.t 8)),.mk none (.call (some 42) 34 [(.t 39),(.t 40),(.t 41)]),.mk none (.build 43 [(.list 0 (some true) []),(.list 0 (some true) []),(.bool false)] [(0,(1,(.t 38))),(1,(1,(.t 42))),(2,(1,(.v (.k (.c (.bool true))))))]),.mk none (.bslice 44 33 3 [(.list 0 (some true) []),(.list 0 (some true) []),(.bool false)] 1 [(0,(.t 43))]),.mk none (.append 45 33 3 56 (.t 37) (.t 44)),.mk none (.mov 10 (.t 45))]
def f10r22:LA:=[.mk none (.iaddr 35 1 (.t 31) (.t 33)),.mk none (.load 36 1 false (.t 35)),.mk none (.mov 12 (.t 36))]
def f10b23:AQ:=(.seq (.region f10r22) (.region f10r21))
def f10b24:AQ:=(.block 1 f10b23)
def f10b25:AQ:=(.seq f10b24 (.region f10r20))
def f10b26:AQ:=(.cond (.t 34) .skip (.exit 0))
def f10b27:AQ:=(.seq f10b26 f10b25)
def f10r28:LA:=[.mk none (.bin 34 .lss (.t 33) (.t 32))]
def f10b29:AQ:=(.seq (.region f10r28) f10b27)
def f10l30:AQ:=.loop [0,6,8,10,31,32,33] [6,10,19,27,31,45,65,20000,20001,20002,28000,28001,28002,32000,32001,32002] f10b29
def f10b31:AQ:=(.block 0 f10l30)
def f10r32:LA:=[.mk none (.load 30 3 true (.t 6)),.mk none (.call (some 31) 33 [(.t 30)]),.mk none (.len 32 (.t 31)),.mk none (.mov 33 (.v (.k (.c (.int .i64 0)))))]
def f10b33:AQ:=(.seq (.region f10r32) f10b31)
def f10b34:AQ:=(.seq f10b33 f10b19)
def f10r35:LA:=[.mk none (.nilL 10 33 3)]
def f10b36:AQ:=(.seq (.region f10r35) f10b34)
def f10r37:LA:=[.mk none (.mov 26 (.t 1)),.mk none (.call (some 27) 14 [(.t 26),(.v (.k (.c (.int .i64 0))))]),.mk none (.mov 25 (.t 27)),.mk none (.extr 28 (.t 25) 0),.mk none (.extr 29 (.t 25) 1),.mk none (.mov 8 (.t 28)),.mk none (.mov 9 (.t 29))]
def f10b38:AQ:=(.seq (.region f10r37) f10b36)
def f10r39:LA:=[.mk none (.mov 24 (.t 7)),.mk none (.nilL 4 33 3),.mk none (.mov 5 (.t 24))]
def f10b40:AQ:=(.seq (.region f10r39) .ret)
def f10b41:AQ:=(.cond (.t 23) f10b40 .skip)
def f10r42:LA:=[.mk none (.mov 22 (.t 7)),.mk none (.bin 23 .neq (.t 22) (.v (.k (.c (.int .i64 0)))))]
def f10b43:AQ:=(.seq (.region f10r42) f10b41)
def f10b44:AQ:=(.seq f10b43 f10b38)
def f10r45:LA:=[.mk none (.mov 17 (.t 0)),.mk none (.mov 18 (.t 1)),.mk none (.call (some 19) 32 [(.t 17),(.t 18)]),.mk none (.mov 16 (.t 19)),.mk none (.extr 20 (.t 16) 0),.mk none (.extr 21 (.t 16) 1),.mk none (.alloc 6 73 [(.list 0 (some true) []),(.int .u64 0),(.int .u64 0)]),.mk none (.store 3 (.t 6) (.t 20)),.mk none (.mov 7 (.t 21))]
def f10b46:AQ:=(.seq (.region f10r45) (.frz 6 f10b44))
def f10r47:LA:=[.mk none (.nilL 4 33 3),.mk none (.mov 5 (.v (.k (.c (.int .i64 0)))))]
def f10b48:AQ:=(.seq (.region f10r47) f10b46)
def f10:AQ:=f10b48
theorem hf10:zI Tryz.prog 10=some ⟨68,f10.erase,[(RX.t 4),(RX.t 5)]⟩:=by kernel_rfl
theorem okf10:f10.ok=true:=by kernel_rfl
def f12r1:LA:=[.mk none (.mov 4 (.v (.k (.c (.int .i64 2))))),.mk none (.mov 5 (.v (.k (.c (.int .i64 0)))))]
def f12b2:AQ:=(.seq (.region f12r1) .ret)
def f12r3:LA:=[.mk none (.mov 4 (.v (.k (.c (.int .i64 0))))),.mk none (.mov 5 (.v (.k (.c (.int .i64 0)))))]
def f12b4:AQ:=(.seq (.region f12r3) .ret)
def f12r5:LA:=[.mk none (.mov 4 (.v (.k (.c (.int .i64 1))))),.mk none (.mov 5 (.v (.k (.c (.int .i64 0)))))]
def f12b6:AQ:=(.seq (.region f12r5) .ret)
def f12b7:AQ:=(.cond (.t 22) f12b6 .skip)
def f12r8:LA:=[.mk none (.faddr 23 0 (.t 6)),.mk none (.load 24 1 false (.t 23)),.mk none (.len 25 (.t 24)),.mk none (.bin 26 .eql (.t 25) (.v (.k (.c (.int .i64 1))))),.mk none (.mov 22 (.t 26))]
def f12b9:AQ:=(.seq (.region f12r8) f12b7)
def f12b10:AQ:=(.cond (.t 17) f12b4 f12b9)
def f12r11:LA:=[.mk none (.faddr 18 0 (.t 6)),.mk none (.load 19 1 false (.t 18)),.mk none (.call (some 20) 36 [(.t 19),(.v (.k (.c (.int .u64 0))))]),.mk none (.un 21 .not (.t 20)),.mk none (.mov 17 (.t 21))]
def f12b12:AQ:=(.seq (.region f12r11) f12b10)
def f12b13:AQ:=(.block 0 f12b12)
def f12b14:AQ:=(.seq f12b13 f12b2)
def f12r15:LA:=[.mk none (.mov 16 (.t 7)),.mk none (.mov 4 (.v (.k (.c (.int .i64 0))))),.mk none (.mov 5 (.t 16))]
def f12b16:AQ:=(.seq (.region f12r15) .ret)
def f12b17:AQ:=(.cond (.t 15) f12b16 .skip)
def f12r18:LA:=[.mk none (.mov 14 (.t 7)),.mk none (.bin 15 .neq (.t 14) (.v (.k (.c (.int .i64 0)))))]
def f12b19:AQ:=(.seq (.region f12r18) f12b17)
def f12b20:AQ:=(.seq f12b19 f12b14)
def f12r21:LA:=[.mk none (.mov 9 (.t 0)),.mk none (.mov 10 (.t 1)),.mk none (.call (some 11) 32 [(.t 9),(.t 10)]),.mk none (.mov 8 (.t 11)),.mk none (.extr 12 (.t 8) 0),.mk none (.extr 13 (.t 8) 1),.mk none (.alloc 6 73 [(.list 0 (some true) []),(.int .u64 0),(.int .u64 0)]),.mk none (.store 3 (.t 6) (.t 12)),.mk none (.mov 7 (.t 13))]
def f12b22:AQ:=(.seq (.region f12r21) (.frz 6 f12b20))
def f12r23:LA:=[.mk none (.mov 4 (.v (.k (.c (.int .i64 0))))),.mk none (.mov 5 (.v (.k (.c (.int .i64 0)))))]
def f12b24:AQ:=(.seq (.region f12r23) f12b22)
def f12:AQ:=f12b24
theorem hf12:zI Tryz.prog 12=some ⟨27,f12.erase,[(RX.t 4),(RX.t 5)]⟩:=by kernel_rfl
theorem okf12:f12.ok=true:=by kernel_rfl
def f20r1:LA:=[.mk none (.mov 13 (.t 6)),.mk none (.mov 4 (.t 13))]
def f20b2:AQ:=(.seq (.region f20r1) .ret)
def f20r3:LA:=[.mk none (.mov 8 (.t 0)),.mk none (.mov 9 (.t 1)),.mk none (.call (some 10) 32 [(.t 8),(.t 9)]),.mk none (.mov 7 (.t 10)),.mk none (.extr 11 (.t 7) 0),.mk none (.extr 12 (.t 7) 1),.mk none (.alloc 5 73 [(.list 0 (some true) []),(.int .u64 0),(.int .u64 0)]),.mk none (.store 3 (.t 5) (.t 11)),.mk none (.mov 6 (.t 12))]
def f20b4:AQ:=(.seq (.region f20r3) (.frz 5 f20b2))
def f20r5:LA:=[.mk none (.mov 4 (.v (.k (.c (.int .i64 0)))))]
def f20b6:AQ:=(.seq (.region f20r5) f20b4)
def f20:AQ:=f20b6
theorem hf20:zI Tryz.prog 20=some ⟨14,f20.erase,[(RX.t 4)]⟩:=by kernel_rfl
theorem okf20:f20.ok=true:=by kernel_rfl
def f11r1:LA:=[.mk none (.mov 6 (.v (.k (.c (.bool false)))))]
def f11b2:AQ:=(.seq (.region f11r1) .ret)
def f11r3:LA:=[.mk none (.mov 18 (.t 9)),.mk none (.bin 19 .add (.t 18) (.v (.k (.c (.int .i64 1))))),.mk none (.mov 9 (.t 19))]
def f11r4:LA:=[.mk none (.mov 6 (.v (.k (.c (.bool true)))))]
def f11b5:AQ:=(.seq (.region f11r4) .ret)
def f11b6:AQ:=(.cond (.t 24) f11b5 .skip)
def f11r7:LA:=[.mk none (.mov 20 (.t 0)),.mk none (.mov 21 (.t 1)),.mk none (.mov 22 (.t 2)),.mk none (.mov 23 (.t 9)),.mk none (.call (some 24) 17 [(.t 20),(.t 21),(.t 22),(.t 23)])]
def f11b8:AQ:=(.seq (.region f11r7) f11b6)
def f11b9:AQ:=(.block 1 f11b8)
def f11b10:AQ:=(.seq f11b9 (.region f11r3))
def f11b11:AQ:=(.cond (.t 17) .skip (.exit 0))
def f11r12:LA:=[.mk none (.mov 15 (.t 9)),.mk none (.mov 16 (.t 7)),.mk none (.bin 17 .lss (.t 15) (.t 16))]
def f11b13:AQ:=(.seq (.region f11r12) f11b11)
def f11b14:AQ:=(.seq f11b13 f11b10)
def f11l15:AQ:=.loop [0,1,2,7,9] [] f11b14
def f11b16:AQ:=(.block 0 f11l15)
def f11r17:LA:=[.mk none (.mov 9 (.v (.k (.c (.int .i64 0)))))]
def f11b18:AQ:=(.seq (.region f11r17) f11b16)
def f11b19:AQ:=(.seq f11b18 f11b2)
def f11r20:LA:=[.mk none (.mov 11 (.t 2)),.mk none (.call (some 12) 13 [(.t 11)]),.mk none (.mov 10 (.t 12)),.mk none (.extr 13 (.t 10) 0),.mk none (.extr 14 (.t 10) 1),.mk none (.mov 7 (.t 13)),.mk none (.mov 8 (.t 14))]
def f11b21:AQ:=(.seq (.region f11r20) f11b19)
def f11r22:LA:=[.mk none (.mov 6 (.v (.k (.c (.bool false)))))]
def f11b23:AQ:=(.seq (.region f11r22) f11b21)
def f11:AQ:=f11b23
theorem hf11:zI Tryz.prog 11=some ⟨25,f11.erase,[(RX.t 6)]⟩:=by kernel_rfl
theorem okf11:f11.ok=true:=by kernel_rfl
def f17r1:LA:=[.mk none (.mov 8 (.v (.k (.c (.bool true)))))]
def f17b2:AQ:=(.seq (.region f17r1) .ret)
def f17r3:LA:=[.mk none (.mov 24 (.t 11)),.mk none (.bin 25 .add (.t 24) (.v (.k (.c (.int .i64 1))))),.mk none (.mov 11 (.t 25))]
def f17r4:LA:=[.mk none (.mov 8 (.v (.k (.c (.bool false)))))]
def f17b5:AQ:=(.seq (.region f17r4) .ret)
def f17b6:AQ:=(.cond (.t 51) f17b5 .skip)
def f17r7:LA:=[.mk none (.mov 26 (.t 1)),.mk none (.mov 27 (.t 11)),.mk none (.iaddr 28 1 (.t 26) (.t 27)),.mk none (.load 29 1 false (.t 28)),.mk none (.bin 30 .lss (.t 29) (.v (.k (.c (.int .i64 0))))),.mk none (.mov 31 (.t 30)),.mk (some (31,false)) (.mov 32 (.t 1)),.mk (some (31,false)) (.mov 33 (.t 11)),.mk (some (31,false)) (.iaddr 34 1 (.t 32) (.t 33)),.mk (some (31,false)) (.load 35 1 false (.t 34)),.mk (some (31,false)) (.mov 36 (.t 0)),.mk (some (31,false)) (.len 37 (.t 36)),.mk (some (31,false)) (.bin 38 .geq (.t 35) (.t 37)),.mk none (.pick 39 (.t 31) (.v (.k (.c (.bool true)))) (.t 38)),.mk none (.mov 40 (.t 39)),.mk (some (40,false)) (.mov 41 (.t 0)),.mk (some (40,false)) (.mov 42 (.t 1)),.mk (some (40,false)) (.mov 43 (.t 11)),.mk (some (40,false)) (.iaddr 44 1 (.t 42) (.t 43)),.mk (some (40,false)) (.load 45 1 false (.t 44)),.mk (some (40,false)) (.iaddr 46 8 (.t 41) (.t 45)),.mk (some (40,false)) (.load 47 8 true (.t 46)),.mk (some (40,false)) (.mov 48 (.t 9)),.mk (some (40,false)) (.call (some 49) 39 [(.t 47),(.t 48)]),.mk (some (40,false)) (.un 50 .not (.t 49)),.mk none (.pick 51 (.t 40) (.v (.k (.c (.bool true)))) (.t 50))]
def f17b8:AQ:=(.seq (.region f17r7) f17b6)
def f17b9:AQ:=(.block 1 f17b8)
def f17b10:AQ:=(.seq f17b9 (.region f17r3))
def f17b11:AQ:=(.cond (.t 23) .skip (.exit 0))
def f17r12:LA:=[.mk none (.mov 20 (.t 11)),.mk none (.mov 21 (.t 1)),.mk none (.len 22 (.t 21)),.mk none (.bin 23 .lss (.t 20) (.t 22))]
def f17b13:AQ:=(.seq (.region f17r12) f17b11)
def f17b14:AQ:=(.seq f17b13 f17b10)
def f17l15:AQ:=.loop [0,1,9,11] [15,16000,16001,16002] f17b14
def f17b16:AQ:=(.block 0 f17l15)
def f17r17:LA:=[.mk none (.mov 11 (.v (.k (.c (.int .i64 0)))))]
def f17b18:AQ:=(.seq (.region f17r17) f17b16)
def f17b19:AQ:=(.seq f17b18 f17b2)
def f17r20:LA:=[.mk none (.mov 8 (.v (.k (.c (.bool false)))))]
def f17b21:AQ:=(.seq (.region f17r20) .ret)
def f17b22:AQ:=(.cond (.t 19) f17b21 .skip)
def f17r23:LA:=[.mk none (.mov 18 (.t 10)),.mk none (.bin 19 .neq (.t 18) (.v (.k (.c (.int .i64 0)))))]
def f17b24:AQ:=(.seq (.region f17r23) f17b22)
def f17b25:AQ:=(.seq f17b24 f17b19)
def f17r26:LA:=[.mk none (.mov 13 (.t 2)),.mk none (.mov 14 (.t 3)),.mk none (.call (some 15) 14 [(.t 13),(.t 14)]),.mk none (.mov 12 (.t 15)),.mk none (.extr 16 (.t 12) 0),.mk none (.extr 17 (.t 12) 1),.mk none (.mov 9 (.t 16)),.mk none (.mov 10 (.t 17))]
def f17b27:AQ:=(.seq (.region f17r26) f17b25)
def f17r28:LA:=[.mk none (.mov 8 (.v (.k (.c (.bool false)))))]
def f17b29:AQ:=(.seq (.region f17r28) f17b27)
def f17:AQ:=f17b29
theorem hf17:zI Tryz.prog 17=some ⟨52,f17.erase,[(RX.t 8)]⟩:=by kernel_rfl
theorem okf17:f17.ok=true:=by kernel_rfl
def f29r1:LA:=[.mk none (.mov 18 (.t 4)),.mk none (.load 19 2 true (.t 2)),.mk none (.load 20 2 true (.t 3)),.mk none (.bslice 21 107 2 [(.str []),(.list 0 (some true) [])] 2 [(0,(.t 19)),(1,(.t 20))]),.mk none (.build 22 [(.str []),(.list 0 (some true) [])] [(0,(1,(.v (.k (.c (.str [105,110,118,111,105,99,101])))))),(1,(1,(.t 21)))]),.mk none (.bslice 23 58 2 [(.str []),(.list 0 (some true) [])] 1 [(0,(.t 22))]),.mk none (.mov 0 (.t 18)),.mk none (.mov 1 (.t 23))]
def f29b2:AQ:=(.seq (.draw f29r1 [[],[],[],[1,2],[3],[4],[0,0],[5,6,0,1,2,3,4,5,6]]) .ret)
def f29r3:LA:=[.mk none (.build 13 [(.int .i64 0),(.str []),(.str []),(.str []),(.str []),(.str []),(.int .i64 0),(.int .i64 0)] [(0,(1,(.v (.k (.c (.int .i64 2)))))),(1,(1,(.v (.k (.c (.str [105,110,118,111,105,99,101])))))),(2,(1,(.v (.k (.c (.str [115,117,109])))))),(6,(1,(.v (.k (.c (.int .i64 50)))))),(7,(1,(.v (.k (.c (.int .i64 150))))))]),.mk none (.build 14 [(.int .i64 0),(.str []),(.str []),(.str []),(.str []),(.str []),(.int .i64 0),(.int .i64 0)] [(0,(1,(.v (.k (.c (.int .i64 2)))))),(1,(1,(.v (.k (.c (.str [105,110,118,111,105,99,101])))))),(2,(1,(.v (.k (.c (.str [115,117,109])))))),(6,(1,(.v (.k (.c (.int .i64 600)))))),(7,(1,(.v (.k (.c (.int .i64 800))))))]),.mk none (.build 15 [(.int .i64 0),(.str []),(.str []),(.str []),(.str []),(.str []),(.int .i64 0),(.int .i64 0)] [(0,(1,(.v (.k (.c (.int .i64 1)))))),(1,(1,(.v (.k (.c (.str [105,110,118,111,105,99,101])))))),(2,(1,(.v (.k (.c (.str [112,111,114,116])))))),(5,(1,(.v (.k (.c (.str [71,101,110,111,97]))))))]),.mk none (.build 16 [(.int .i64 0),(.str []),(.str []),(.str []),(.str []),(.str []),(.int .i64 0),(.int .i64 0)] [(0,(1,(.v (.k (.c (.int .i64 0)))))),(1,(1,(.v (.k (.c (.str [112,97,99,107,105,110,103]))))))]),.mk none (.bslice 17 46 8 [(.int .i64 0),(.str []),(.str []),(.str []),(.str []),(.str []),(.int .i64 0),(.int .i64 0)] 4 [(0,(.t 13)),(1,(.t 14)),(2,(.t 15)),(3,(.t 16))])]
def f29r4:LA:=[.mk none (.mov 4 (.t 17))]
def f29b5:AQ:=(.seq (.regf f29r3 [17] f29r4) f29b2)
def f29r6:LA:=[.mk none (.bslice 9 9 1 [(.str [])] 1 [(0,(.v (.k (.c (.str [71,101,110,111,97])))))])]
def f29r7:LA:=[.mk none (.build 10 [(.list 0 (some true) [])] [(0,(1,(.t 9)))]),.mk none (.bslice 11 109 1 [(.list 0 (some true) [])] 1 [(0,(.t 10))])]
def f29r8:LA:=[.mk none (.build 12 [(.str []),(.list 0 (some true) [])] [(0,(1,(.v (.k (.c (.str [112,111,114,116])))))),(1,(1,(.t 11)))]),.mk none (.alloc 3 107 [(.str []),(.list 0 (some true) [])]),.mk none (.store 2 (.t 3) (.t 12))]
def f29b9:AQ:=(.seq (.regs [(f29r6,[9]),(f29r7,[11]),(f29r8,[])]) (.frz 3 f29b5))
def f29r10:LA:=[.mk none (.bslice 5 9 1 [(.str [])] 2 [(0,(.v (.k (.c (.str [49,48,48]))))),(1,(.v (.k (.c (.str [55,48,48])))))])]
def f29r11:LA:=[.mk none (.build 6 [(.list 0 (some true) [])] [(0,(1,(.t 5)))]),.mk none (.bslice 7 109 1 [(.list 0 (some true) [])] 1 [(0,(.t 6))])]
def f29r12:LA:=[.mk none (.build 8 [(.str []),(.list 0 (some true) [])] [(0,(1,(.v (.k (.c (.str [115,117,109])))))),(1,(1,(.t 7)))]),.mk none (.alloc 2 107 [(.str []),(.list 0 (some true) [])]),.mk none (.store 2 (.t 2) (.t 8))]
def f29b13:AQ:=(.seq (.regs [(f29r10,[5]),(f29r11,[7]),(f29r12,[])]) (.frz 2 f29b9))
def f29r14:LA:=[.mk none (.nilL 0 46 8),.mk none (.nilL 1 58 2)]
def f29b15:AQ:=(.seq (.region f29r14) f29b13)
def f29:AQ:=f29b15
theorem hf29:zI Tryz.prog 29=some ⟨24,f29.erase,[(RX.t 0),(RX.t 1)]⟩:=by kernel_rfl
theorem okf29:f29.ok=true:=by kernel_rfl
def f25r1:LA:=[.mk none (.mov 4 (.v (.k (.c (.bool true)))))]
def f25b2:AQ:=(.seq (.region f25r1) .ret)
def f25r3:LA:=[.mk none (.mov 15 (.t 5)),.mk none (.bin 16 .add (.t 15) (.v (.k (.c (.int .i64 1))))),.mk none (.mov 5 (.t 16))]
def f25r4:LA:=[.mk none (.mov 4 (.v (.k (.c (.bool false)))))]
def f25b5:AQ:=(.seq (.region f25r4) .ret)
def f25b6:AQ:=(.cond (.t 55) f25b5 .skip)
def f25r7:LA:=[.mk none (.mov 17 (.t 0)),.mk none (.mov 18 (.t 5)),.mk none (.iaddr 19 3 (.t 17) (.t 18)),.mk none (.faddr 20 2 (.t 19)),.mk none (.load 21 1 false (.t 20)),.mk none (.mov 22 (.t 1)),.mk none (.mov 23 (.t 5)),.mk none (.iaddr 24 3 (.t 22) (.t 23)),.mk none (.faddr 25 2 (.t 24)),.mk none (.load 26 1 false (.t 25)),.mk none (.binB 27 true (.t 21) (.t 26)),.mk none (.mov 28 (.t 27)),.mk (some (28,false)) (.mov 29 (.t 0)),.mk (some (28,false)) (.mov 30 (.t 5)),.mk (some (28,false)) (.iaddr 31 3 (.t 29) (.t 30)),.mk (some (28,false)) (.faddr 32 0 (.t 31)),.mk (some (28,false)) (.load 33 1 false (.t 32)),.mk (some (28,false)) (.mov 34 (.t 1)),.mk (some (28,false)) (.mov 35 (.t 5)),.mk (some (28,false)) (.iaddr 36 3 (.t 34) (.t 35)),.mk (some (28,false)) (.faddr 37 0 (.t 36)),.mk (some (28,false)) (.load 38 1 false (.t 37)),.mk (some (28,false)) (.call (some 39) 52 [(.t 33),(.t 38)]),.mk (some (28,false)) (.un 40 .not (.t 39)),.mk none (.pick 41 (.t 28) (.v (.k (.c (.bool true)))) (.t 40)),.mk none (.mov 42 (.t 41)),.mk (some (42,false)) (.mov 43 (.t 0)),.mk (some (42,false)) (.mov 44 (.t 5)),.mk (some (42,false)) (.iaddr 45 3 (.t 43) (.t 44)),.mk (some (42,false)) (.faddr 46 1 (.t 45)),.mk (some (42,false)) (.load 47 1 false (.t 46)),.mk (some (42,false)) (.mov 48 (.t 1)),.mk (some (42,false)) (.mov 49 (.t 5)),.mk (some (42,false)) (.iaddr 50 3 (.t 48) (.t 49)),.mk (some (42,false)) (.faddr 51 1 (.t 50)),.mk (some (42,false)) (.load 52 1 false (.t 51)),.mk (some (42,false)) (.call (some 53) 53 [(.t 47),(.t 52)]),.mk (some (42,false)) (.un 54 .not (.t 53)),.mk none (.pick 55 (.t 42) (.v (.k (.c (.bool true)))) (.t 54))]
def f25b8:AQ:=(.seq (.draw f25r7 [[],[],[0,1],[2],[3],[],[],[5,6],[7],[8],[4,9],[10],[11],[11],[12,13,11],[14,11],[15,11],[11],[11],[17,18,11],[19,11],[20,11],[16,21,11,11],[22,11],[11,23],[24,22],[25],[25],[26,27,25],[28,25],[29,25],[25],[25],[31,32,25],[33,25],[34,25],[30,35,25,25],[36,25],[25,37]]) f25b6)
def f25b9:AQ:=(.block 1 f25b8)
def f25b10:AQ:=(.seq f25b9 (.region f25r3))
def f25b11:AQ:=(.cond (.t 14) .skip (.exit 0))
def f25r12:LA:=[.mk none (.mov 11 (.t 5)),.mk none (.mov 12 (.t 0)),.mk none (.len 13 (.t 12)),.mk none (.bin 14 .lss (.t 11) (.t 13))]
def f25b13:AQ:=(.seq (.region f25r12) f25b11)
def f25b14:AQ:=(.seq f25b13 f25b10)
def f25l15:AQ:=.loop [0,1,5] [] f25b14
def f25b16:AQ:=(.block 0 f25l15)
def f25r17:LA:=[.mk none (.mov 5 (.v (.k (.c (.int .i64 0)))))]
def f25b18:AQ:=(.seq (.region f25r17) f25b16)
def f25b19:AQ:=(.seq f25b18 f25b2)
def f25r20:LA:=[.mk none (.mov 4 (.v (.k (.c (.bool false)))))]
def f25b21:AQ:=(.seq (.region f25r20) .ret)
def f25b22:AQ:=(.cond (.t 10) f25b21 .skip)
def f25r23:LA:=[.mk none (.mov 6 (.t 0)),.mk none (.len 7 (.t 6)),.mk none (.mov 8 (.t 1)),.mk none (.len 9 (.t 8)),.mk none (.bin 10 .neq (.t 7) (.t 9))]
def f25b24:AQ:=(.seq (.region f25r23) f25b22)
def f25b25:AQ:=(.seq f25b24 f25b19)
def f25r26:LA:=[.mk none (.mov 4 (.v (.k (.c (.bool false)))))]
def f25b27:AQ:=(.seq (.region f25r26) f25b25)
def f25:AQ:=f25b27
theorem hf25:zI Tryz.prog 25=some ⟨56,f25.erase,[(RX.t 4)]⟩:=by kernel_rfl
theorem okf25:f25.ok=true:=by kernel_rfl
def f52r1:LA:=[.mk none (.mov 4 (.v (.k (.c (.bool true)))))]
def f52b2:AQ:=(.seq (.region f52r1) .ret)
def f52r3:LA:=[.mk none (.mov 15 (.t 5)),.mk none (.bin 16 .add (.t 15) (.v (.k (.c (.int .i64 1))))),.mk none (.mov 5 (.t 16))]
def f52r4:LA:=[.mk none (.mov 4 (.v (.k (.c (.bool false)))))]
def f52b5:AQ:=(.seq (.region f52r4) .ret)
def f52b6:AQ:=(.cond (.t 25) f52b5 .skip)
def f52r7:LA:=[.mk none (.mov 17 (.t 0)),.mk none (.mov 18 (.t 5)),.mk none (.iaddr 19 1 (.t 17) (.t 18)),.mk none (.load 20 1 false (.t 19)),.mk none (.mov 21 (.t 1)),.mk none (.mov 22 (.t 5)),.mk none (.iaddr 23 1 (.t 21) (.t 22)),.mk none (.load 24 1 false (.t 23)),.mk none (.bin 25 .neq (.t 20) (.t 24))]
def f52b8:AQ:=(.seq (.draw f52r7 [[],[],[0,1],[2],[],[],[4,5],[6],[3,7]]) f52b6)
def f52b9:AQ:=(.block 1 f52b8)
def f52b10:AQ:=(.seq f52b9 (.region f52r3))
def f52b11:AQ:=(.cond (.t 14) .skip (.exit 0))
def f52r12:LA:=[.mk none (.mov 11 (.t 5)),.mk none (.mov 12 (.t 0)),.mk none (.len 13 (.t 12)),.mk none (.bin 14 .lss (.t 11) (.t 13))]
def f52b13:AQ:=(.seq (.region f52r12) f52b11)
def f52b14:AQ:=(.seq f52b13 f52b10)
def f52l15:AQ:=.loop [0,1,5] [] f52b14
def f52b16:AQ:=(.block 0 f52l15)
def f52r17:LA:=[.mk none (.mov 5 (.v (.k (.c (.int .i64 0)))))]
def f52b18:AQ:=(.seq (.region f52r17) f52b16)
def f52b19:AQ:=(.seq f52b18 f52b2)
def f52r20:LA:=[.mk none (.mov 4 (.v (.k (.c (.bool false)))))]
def f52b21:AQ:=(.seq (.region f52r20) .ret)
def f52b22:AQ:=(.cond (.t 10) f52b21 .skip)
def f52r23:LA:=[.mk none (.mov 6 (.t 0)),.mk none (.len 7 (.t 6)),.mk none (.mov 8 (.t 1)),.mk none (.len 9 (.t 8)),.mk none (.bin 10 .neq (.t 7) (.t 9))]
def f52b24:AQ:=(.seq (.region f52r23) f52b22)
def f52b25:AQ:=(.seq f52b24 f52b19)
def f52r26:LA:=[.mk none (.mov 4 (.v (.k (.c (.bool false)))))]
def f52b27:AQ:=(.seq (.region f52r26) f52b25)
def f52:AQ:=f52b27
theorem hf52:zI Tryz.prog 52=some ⟨26,f52.erase,[(RX.t 4)]⟩:=by kernel_rfl
theorem okf52:f52.ok=true:=by kernel_rfl
def f53r1:LA:=[.mk none (.mov 4 (.v (.k (.c (.bool true)))))]
def f53b2:AQ:=(.seq (.region f53r1) .ret)
def f53r3:LA:=[.mk none (.mov 15 (.t 5)),.mk none (.bin 16 .add (.t 15) (.v (.k (.c (.int .i64 1))))),.mk none (.mov 5 (.t 16))]
def f53r4:LA:=[.mk none (.mov 4 (.v (.k (.c (.bool false)))))]
def f53b5:AQ:=(.seq (.region f53r4) .ret)
def f53b6:AQ:=(.cond (.t 25) f53b5 .skip)
def f53r7:LA:=[.mk none (.mov 17 (.t 0)),.mk none (.mov 18 (.t 5)),.mk none (.iaddr 19 2 (.t 17) (.t 18)),.mk none (.load 20 2 true (.t 19)),.mk none (.mov 21 (.t 1)),.mk none (.mov 22 (.t 5)),.mk none (.iaddr 23 2 (.t 21) (.t 22)),.mk none (.load 24 2 true (.t 23)),.mk none (.eqAgg 25 true [.int,.int] (.t 20) (.t 24))]
def f53b8:AQ:=(.seq (.draw f53r7 [[],[],[0,1],[2],[],[],[4,5],[6],[3,7]]) f53b6)
def f53b9:AQ:=(.block 1 f53b8)
def f53b10:AQ:=(.seq f53b9 (.region f53r3))
def f53b11:AQ:=(.cond (.t 14) .skip (.exit 0))
def f53r12:LA:=[.mk none (.mov 11 (.t 5)),.mk none (.mov 12 (.t 0)),.mk none (.len 13 (.t 12)),.mk none (.bin 14 .lss (.t 11) (.t 13))]
def f53b13:AQ:=(.seq (.region f53r12) f53b11)
def f53b14:AQ:=(.seq f53b13 f53b10)
def f53l15:AQ:=.loop [0,1,5] [] f53b14
def f53b16:AQ:=(.block 0 f53l15)
def f53r17:LA:=[.mk none (.mov 5 (.v (.k (.c (.int .i64 0)))))]
def f53b18:AQ:=(.seq (.region f53r17) f53b16)
def f53b19:AQ:=(.seq f53b18 f53b2)
def f53r20:LA:=[.mk none (.mov 4 (.v (.k (.c (.bool false)))))]
def f53b21:AQ:=(.seq (.region f53r20) .ret)
def f53b22:AQ:=(.cond (.t 10) f53b21 .skip)
def f53r23:LA:=[.mk none (.mov 6 (.t 0)),.mk none (.len 7 (.t 6)),.mk none (.mov 8 (.t 1)),.mk none (.len 9 (.t 8)),.mk none (.bin 10 .neq (.t 7) (.t 9))]
def f53b24:AQ:=(.seq (.region f53r23) f53b22)
def f53b25:AQ:=(.seq f53b24 f53b19)
def f53r26:LA:=[.mk none (.mov 4 (.v (.k (.c (.bool false)))))]
def f53b27:AQ:=(.seq (.region f53r26) f53b25)
def f53:AQ:=f53b27
theorem hf53:zI Tryz.prog 53=some ⟨26,f53.erase,[(RX.t 4)]⟩:=by kernel_rfl
theorem okf53:f53.ok=true:=by kernel_rfl
def f9r1:LA:=[.mk none (.mov 42 (.t 7)),.mk none (.bin 43 .neq (.t 42) (.v (.k (.c (.int .i64 0))))),.mk none (.mov 44 (.t 43)),.mk (some (44,false)) (.mov 45 (.t 6)),.mk (some (44,false)) (.bin 46 .leq (.t 45) (.v (.k (.c (.int .i64 128))))),.mk none (.pick 47 (.t 44) (.v (.k (.c (.bool true)))) (.t 46)),.mk none (.mov 4 (.t 47))]
def f9b2:AQ:=(.seq (.region f9r1) .ret)
def f9r3:LA:=[.mk none (.mov 38 (.t 1)),.mk none (.call (some 39) 18 [(.t 38)]),.mk none (.mov 37 (.t 39)),.mk none (.extr 40 (.t 37) 0),.mk none (.extr 41 (.t 37) 1),.mk none (.mov 6 (.t 40)),.mk none (.mov 7 (.t 41))]
def f9b4:AQ:=(.seq (.region f9r3) f9b2)
def f9r5:LA:=[.mk none (.mov 4 (.v (.k (.c (.bool false)))))]
def f9b6:AQ:=(.seq (.region f9r5) .ret)
def f9b7:AQ:=(.cond (.t 36) f9b6 .skip)
def f9r8:LA:=[.mk none (.mov 24 (.t 0)),.mk none (.len 25 (.t 24)),.mk none (.bin 26 .gtr (.t 25) (.v (.k (.c (.int .i64 8))))),.mk none (.mov 27 (.t 26)),.mk (some (27,false)) (.mov 28 (.t 1)),.mk (some (27,false)) (.len 29 (.t 28)),.mk (some (27,false)) (.bin 30 .gtr (.t 29) (.v (.k (.c (.int .i64 12))))),.mk none (.pick 31 (.t 27) (.v (.k (.c (.bool true)))) (.t 30)),.mk none (.mov 32 (.t 31)),.mk (some (32,false)) (.mov 33 (.t 0)),.mk (some (32,false)) (.call (some 34) 31 [(.t 33)]),.mk (some (32,false)) (.un 35 .not (.t 34)),.mk none (.pick 36 (.t 32) (.v (.k (.c (.bool true)))) (.t 35))]
def f9b9:AQ:=(.seq (.region f9r8) f9b7)
def f9b10:AQ:=(.seq f9b9 f9b4)
def f9r11:LA:=[.mk none (.mov 16 (.t 5)),.mk none (.bin 17 .add (.t 16) (.v (.k (.c (.int .i64 1))))),.mk none (.mov 5 (.t 17))]
def f9r12:LA:=[.mk none (.mov 4 (.v (.k (.c (.bool false)))))]
def f9b13:AQ:=(.seq (.region f9r12) .ret)
def f9b14:AQ:=(.cond (.t 23) f9b13 .skip)
def f9r15:LA:=[.mk none (.mov 18 (.t 1)),.mk none (.mov 19 (.t 5)),.mk none (.iaddr 20 2 (.t 18) (.t 19)),.mk none (.load 21 2 true (.t 20)),.mk none (.call (some 22) 30 [(.t 21)]),.mk none (.un 23 .not (.t 22))]
def f9b16:AQ:=(.seq (.region f9r15) f9b14)
def f9b17:AQ:=(.block 1 f9b16)
def f9b18:AQ:=(.seq f9b17 (.region f9r11))
def f9b19:AQ:=(.cond (.t 15) .skip (.exit 0))
def f9r20:LA:=[.mk none (.mov 8 (.t 5)),.mk none (.mov 9 (.t 1)),.mk none (.len 10 (.t 9)),.mk none (.bin 11 .lss (.t 8) (.t 10)),.mk none (.mov 12 (.t 11)),.mk (some (12,true)) (.mov 13 (.t 5)),.mk (some (12,true)) (.bin 14 .lss (.t 13) (.v (.k (.c (.int .i64 12))))),.mk none (.pick 15 (.t 12) (.t 14) (.v (.k (.c (.bool false)))))]
def f9b21:AQ:=(.seq (.region f9r20) f9b19)
def f9b22:AQ:=(.seq f9b21 f9b18)
def f9l23:AQ:=.loop [0,1,5] [] f9b22
def f9b24:AQ:=(.block 0 f9l23)
def f9r25:LA:=[.mk none (.mov 5 (.v (.k (.c (.int .i64 0)))))]
def f9b26:AQ:=(.seq (.region f9r25) f9b24)
def f9b27:AQ:=(.seq f9b26 f9b10)
def f9r28:LA:=[.mk none (.mov 4 (.v (.k (.c (.bool false)))))]
def f9b29:AQ:=(.seq (.region f9r28) f9b27)
def f9:AQ:=f9b29
theorem hf9:zI Tryz.prog 9=some ⟨48,f9.erase,[(RX.t 4)]⟩:=by kernel_rfl
theorem okf9:f9.ok=true:=by kernel_rfl
def f30r1:LA:=[.mk none (.mov 2 (.v (.k (.c (.bool true)))))]
def f30b2:AQ:=(.seq (.region f30r1) .ret)
def f30r3:LA:=[.mk none (.mov 22 (.t 3)),.mk none (.bin 23 .add (.t 22) (.v (.k (.c (.int .i64 1))))),.mk none (.mov 3 (.t 23))]
def f30r4:LA:=[.mk none (.mov 51 (.t 4)),.mk none (.bin 52 .add (.t 51) (.v (.k (.c (.int .i64 1))))),.mk none (.mov 4 (.t 52))]
def f30r5:LA:=[.mk none (.mov 70 (.t 6)),.mk none (.bin 71 .add (.t 70) (.v (.k (.c (.int .i64 1))))),.mk none (.mov 6 (.t 71))]
def f30r6:LA:=[.mk none (.mov 2 (.v (.k (.c (.bool false)))))]
def f30b7:AQ:=(.seq (.region f30r6) .ret)
def f30b8:AQ:=(.cond (.t 77) f30b7 .skip)
def f30r9:LA:=[.mk none (.mov 72 (.t 5)),.mk none (.mov 73 (.t 6)),.mk none (.iaddr 74 1 (.t 72) (.t 73)),.mk none (.load 75 1 false (.t 74)),.mk none (.lenS 76 (.t 75)),.mk none (.bin 77 .gtr (.t 76) (.v (.k (.c (.int .i64 100)))))]
def f30b10:AQ:=(.seq (.region f30r9) f30b8)
def f30b11:AQ:=(.block 5 f30b10)
def f30b12:AQ:=(.seq f30b11 (.region f30r5))
def f30b13:AQ:=(.cond (.t 69) .skip (.exit 4))
def f30r14:LA:=[.mk none (.mov 66 (.t 6)),.mk none (.mov 67 (.t 5)),.mk none (.len 68 (.t 67)),.mk none (.bin 69 .lss (.t 66) (.t 68))]
def f30b15:AQ:=(.seq (.region f30r14) f30b13)
def f30b16:AQ:=(.seq f30b15 f30b12)
def f30l17:AQ:=.loop [1,3,4,5,6] [1] f30b16
def f30b18:AQ:=(.block 4 f30l17)
def f30r19:LA:=[.mk none (.mov 6 (.v (.k (.c (.int .i64 0)))))]
def f30b20:AQ:=(.seq (.region f30r19) f30b18)
def f30r21:LA:=[.mk none (.mov 2 (.v (.k (.c (.bool false)))))]
def f30b22:AQ:=(.seq (.region f30r21) .ret)
def f30b23:AQ:=(.cond (.t 65) f30b22 .skip)
def f30r24:LA:=[.mk none (.mov 63 (.t 5)),.mk none (.len 64 (.t 63)),.mk none (.bin 65 .gtr (.t 64) (.v (.k (.c (.int .i64 6)))))]
def f30b25:AQ:=(.seq (.region f30r24) f30b23)
def f30b26:AQ:=(.seq f30b25 f30b20)
def f30r27:LA:=[.mk none (.faddr 53 1 (.t 1)),.mk none (.load 54 1 false (.t 53)),.mk none (.mov 55 (.t 3)),.mk none (.iaddr 56 2 (.t 54) (.t 55)),.mk none (.faddr 57 1 (.t 56)),.mk none (.load 58 1 false (.t 57)),.mk none (.mov 59 (.t 4)),.mk none (.iaddr 60 1 (.t 58) (.t 59)),.mk none (.faddr 61 0 (.t 60)),.mk none (.load 62 1 false (.t 61)),.mk none (.mov 5 (.t 62))]
def f30b28:AQ:=(.seq (.region f30r27) f30b26)
def f30b29:AQ:=(.block 3 f30b28)
def f30b30:AQ:=(.seq f30b29 (.region f30r4))
def f30b31:AQ:=(.cond (.t 50) .skip (.exit 2))
def f30r32:LA:=[.mk none (.mov 42 (.t 4)),.mk none (.faddr 43 1 (.t 1)),.mk none (.load 44 1 false (.t 43)),.mk none (.mov 45 (.t 3)),.mk none (.iaddr 46 2 (.t 44) (.t 45)),.mk none (.faddr 47 1 (.t 46)),.mk none (.load 48 1 false (.t 47)),.mk none (.len 49 (.t 48)),.mk none (.bin 50 .lss (.t 42) (.t 49))]
def f30b33:AQ:=(.seq (.region f30r32) f30b31)
def f30b34:AQ:=(.seq f30b33 f30b30)
def f30l35:AQ:=.loop [1,3,4] [1] f30b34
def f30b36:AQ:=(.block 2 f30l35)
def f30r37:LA:=[.mk none (.mov 4 (.v (.k (.c (.int .i64 0)))))]
def f30b38:AQ:=(.seq (.region f30r37) f30b36)
def f30r39:LA:=[.mk none (.mov 2 (.v (.k (.c (.bool false)))))]
def f30b40:AQ:=(.seq (.region f30r39) .ret)
def f30b41:AQ:=(.cond (.t 41) f30b40 .skip)
def f30r42:LA:=[.mk none (.faddr 24 1 (.t 1)),.mk none (.load 25 1 false (.t 24)),.mk none (.mov 26 (.t 3)),.mk none (.iaddr 27 2 (.t 25) (.t 26)),.mk none (.faddr 28 1 (.t 27)),.mk none (.load 29 1 false (.t 28)),.mk none (.len 30 (.t 29)),.mk none (.bin 31 .gtr (.t 30) (.v (.k (.c (.int .i64 10))))),.mk none (.mov 32 (.t 31)),.mk (some (32,false)) (.faddr 33 1 (.t 1)),.mk (some (32,false)) (.load 34 1 false (.t 33)),.mk (some (32,false)) (.mov 35 (.t 3)),.mk (some (32,false)) (.iaddr 36 2 (.t 34) (.t 35)),.mk (some (32,false)) (.faddr 37 0 (.t 36)),.mk (some (32,false)) (.load 38 1 false (.t 37)),.mk (some (32,false)) (.lenS 39 (.t 38)),.mk (some (32,false)) (.bin 40 .gtr (.t 39) (.v (.k (.c (.int .i64 100))))),.mk none (.pick 41 (.t 32) (.v (.k (.c (.bool true)))) (.t 40))]
def f30b43:AQ:=(.seq (.region f30r42) f30b41)
def f30b44:AQ:=(.seq f30b43 f30b38)
def f30b45:AQ:=(.block 1 f30b44)
def f30b46:AQ:=(.seq f30b45 (.region f30r3))
def f30b47:AQ:=(.cond (.t 21) .skip (.exit 0))
def f30r48:LA:=[.mk none (.mov 17 (.t 3)),.mk none (.faddr 18 1 (.t 1)),.mk none (.load 19 1 false (.t 18)),.mk none (.len 20 (.t 19)),.mk none (.bin 21 .lss (.t 17) (.t 20))]
def f30b49:AQ:=(.seq (.region f30r48) f30b47)
def f30b50:AQ:=(.seq f30b49 f30b46)
def f30l51:AQ:=.loop [1,3] [1] f30b50
def f30b52:AQ:=(.block 0 f30l51)
def f30r53:LA:=[.mk none (.mov 3 (.v (.k (.c (.int .i64 0)))))]
def f30b54:AQ:=(.seq (.region f30r53) f30b52)
def f30b55:AQ:=(.seq f30b54 f30b2)
def f30r56:LA:=[.mk none (.mov 2 (.v (.k (.c (.bool false)))))]
def f30b57:AQ:=(.seq (.region f30r56) .ret)
def f30b58:AQ:=(.cond (.t 16) f30b57 .skip)
def f30r59:LA:=[.mk none (.faddr 7 1 (.t 1)),.mk none (.load 8 1 false (.t 7)),.mk none (.len 9 (.t 8)),.mk none (.bin 10 .gtr (.t 9) (.v (.k (.c (.int .i64 14))))),.mk none (.mov 11 (.t 10)),.mk (some (11,false)) (.faddr 12 0 (.t 1)),.mk (some (11,false)) (.load 13 1 false (.t 12)),.mk (some (11,false)) (.lenS 14 (.t 13)),.mk (some (11,false)) (.bin 15 .gtr (.t 14) (.v (.k (.c (.int .i64 100))))),.mk none (.pick 16 (.t 11) (.v (.k (.c (.bool true)))) (.t 15))]
def f30b60:AQ:=(.seq (.region f30r59) f30b58)
def f30b61:AQ:=(.seq f30b60 f30b55)
def f30r62:LA:=[.mk none (.box 1 58 (.t 0)),.mk none (.mov 2 (.v (.k (.c (.bool false)))))]
def f30b63:AQ:=(.seq (.region f30r62) (.frz 1 f30b61))
def f30:AQ:=f30b63
theorem hf30:zI Tryz.prog 30=some ⟨78,f30.erase,[(RX.t 2)]⟩:=by kernel_rfl
theorem okf30:f30.ok=true:=by kernel_rfl
def f31r1:LA:=[.mk none (.mov 57 (.t 0)),.mk none (.len 58 (.t 57)),.mk none (.bin 59 .leq (.t 58) (.v (.k (.c (.int .i64 30))))),.mk none (.mov 2 (.t 59))]
def f31b2:AQ:=(.seq (.region f31r1) .ret)
def f31r3:LA:=[.mk none (.mov 12 (.t 3)),.mk none (.bin 13 .add (.t 12) (.v (.k (.c (.int .i64 1))))),.mk none (.mov 3 (.t 13))]
def f31r4:LA:=[.mk none (.mov 2 (.v (.k (.c (.bool false)))))]
def f31b5:AQ:=(.seq (.region f31r4) .ret)
def f31b6:AQ:=(.cond (.t 56) f31b5 .skip)
def f31r7:LA:=[.mk none (.mov 14 (.t 0)),.mk none (.mov 15 (.t 3)),.mk none (.iaddr 16 8 (.t 14) (.t 15)),.mk none (.faddr 17 5 (.t 16)),.mk none (.load 18 1 false (.t 17)),.mk none (.lenS 19 (.t 18)),.mk none (.bin 20 .gtr (.t 19) (.v (.k (.c (.int .i64 500))))),.mk none (.mov 21 (.t 20)),.mk (some (21,false)) (.mov 22 (.t 0)),.mk (some (21,false)) (.mov 23 (.t 3)),.mk (some (21,false)) (.iaddr 24 8 (.t 22) (.t 23)),.mk (some (21,false)) (.faddr 25 1 (.t 24)),.mk (some (21,false)) (.load 26 1 false (.t 25)),.mk (some (21,false)) (.lenS 27 (.t 26)),.mk (some (21,false)) (.bin 28 .gtr (.t 27) (.v (.k (.c (.int .i64 60))))),.mk none (.pick 29 (.t 21) (.v (.k (.c (.bool true)))) (.t 28)),.mk none (.mov 30 (.t 29)),.mk (some (30,false)) (.mov 31 (.t 0)),.mk (some (30,false)) (.mov 32 (.t 3)),.mk (some (30,false)) (.iaddr 33 8 (.t 31) (.t 32)),.mk (some (30,false)) (.faddr 34 2 (.t 33)),.mk (some (30,false)) (.load 35 1 false (.t 34)),.mk (some (30,false)) (.lenS 36 (.t 35)),.mk (some (30,false)) (.bin 37 .gtr (.t 36) (.v (.k (.c (.int .i64 60))))),.mk none (.pick 38 (.t 30) (.v (.k (.c (.bool true)))) (.t 37)),.mk none (.mov 39 (.t 38)),.mk (some (39,false)) (.mov 40 (.t 0)),.mk (some (39,false)) (.mov 41 (.t 3)),.mk (some (39,false)) (.iaddr 42 8 (.t 40) (.t 41)),.mk (some (39,false)) (.faddr 43 3 (.t 42)),.mk (some (39,false)) (.load 44 1 false (.t 43)),.mk (some (39,false)) (.lenS 45 (.t 44)),.mk (some (39,false)) (.bin 46 .gtr (.t 45) (.v (.k (.c (.int .i64 60))))),.mk none (.pick 47 (.t 39) (.v (.k (.c (.bool true)))) (.t 46)),.mk none (.mov 48 (.t 47)),.mk (some (48,false)) (.mov 49 (.t 0)),.mk (some (48,false)) (.mov 50 (.t 3)),.mk (some (48,false)) (.iaddr 51 8 (.t 49) (.t 50)),.mk (some (48,false)) (.faddr 52 4 (.t 51)),.mk (some (48,false)) (.load 53 1 false (.t 52)),.mk (some (48,false)) (.lenS 54 (.t 53)),.mk (some (48,false)) (.bin 55 .gtr (.t 54) (.v (.k (.c (.int .i64 60))))),.mk none (.pick 56 (.t 48) (.v (.k (.c (.bool true)))) (.t 55))]
def f31b8:AQ:=(.seq (.region f31r7) f31b6)
def f31b9:AQ:=(.block 1 f31b8)
def f31b10:AQ:=(.seq f31b9 (.region f31r3))
def f31b11:AQ:=(.cond (.t 11) .skip (.exit 0))
def f31r12:LA:=[.mk none (.mov 4 (.t 3)),.mk none (.mov 5 (.t 0)),.mk none (.len 6 (.t 5)),.mk none (.bin 7 .lss (.t 4) (.t 6)),.mk none (.mov 8 (.t 7)),.mk (some (8,true)) (.mov 9 (.t 3)),.mk (some (8,true)) (.bin 10 .lss (.t 9) (.v (.k (.c (.int .i64 40))))),.mk none (.pick 11 (.t 8) (.t 10) (.v (.k (.c (.bool false)))))]
def f31b13:AQ:=(.seq (.region f31r12) f31b11)
def f31b14:AQ:=(.seq f31b13 f31b10)
def f31l15:AQ:=.loop [0,3] [] f31b14
def f31b16:AQ:=(.block 0 f31l15)
def f31r17:LA:=[.mk none (.mov 3 (.v (.k (.c (.int .i64 0)))))]
def f31b18:AQ:=(.seq (.region f31r17) f31b16)
def f31b19:AQ:=(.seq f31b18 f31b2)
def f31r20:LA:=[.mk none (.mov 2 (.v (.k (.c (.bool false)))))]
def f31b21:AQ:=(.seq (.region f31r20) f31b19)
def f31:AQ:=f31b21
theorem hf31:zI Tryz.prog 31=some ⟨60,f31.erase,[(RX.t 2)]⟩:=by kernel_rfl
theorem okf31:f31.ok=true:=by kernel_rfl
def f18r1:LA:=[.mk none (.mov 52 (.t 6)),.mk none (.mov 2 (.t 52)),.mk none (.mov 3 (.v (.k (.c (.int .i64 0)))))]
def f18b2:AQ:=(.seq (.region f18r1) .ret)
def f18r3:LA:=[.mk none (.mov 31 (.t 7)),.mk none (.bin 32 .add (.t 31) (.v (.k (.c (.int .i64 1))))),.mk none (.mov 7 (.t 32))]
def f18r4:LA:=[.mk none (.mov 49 (.t 6)),.mk none (.mov 50 (.t 8)),.mk none (.bin 51 .mul (.t 49) (.t 50)),.mk none (.mov 6 (.t 51))]
def f18r5:LA:=[.mk none (.mov 2 (.v (.k (.c (.int .i64 0))))),.mk none (.mov 3 (.v (.k (.c (.int .i64 6)))))]
def f18b6:AQ:=(.seq (.region f18r5) .ret)
def f18b7:AQ:=(.cond (.t 48) f18b6 .skip)
def f18r8:LA:=[.mk none (.mov 41 (.t 9)),.mk none (.bin 42 .neq (.t 41) (.v (.k (.c (.int .i64 0))))),.mk none (.mov 43 (.t 42)),.mk (some (43,false)) (.mov 44 (.t 6)),.mk (some (43,false)) (.mov 45 (.t 8)),.mk (some (43,false)) (.bin 46 .mul (.t 44) (.t 45)),.mk (some (43,false)) (.bin 47 .gtr (.t 46) (.v (.k (.c (.int .i64 4096))))),.mk none (.pick 48 (.t 43) (.v (.k (.c (.bool true)))) (.t 47))]
def f18b9:AQ:=(.seq (.region f18r8) f18b7)
def f18b10:AQ:=(.seq f18b9 (.region f18r4))
def f18r11:LA:=[.mk none (.mov 34 (.t 0)),.mk none (.mov 35 (.t 7)),.mk none (.iaddr 36 2 (.t 34) (.t 35)),.mk none (.load 37 2 true (.t 36)),.mk none (.call (some 38) 42 [(.t 37)]),.mk none (.mov 33 (.t 38)),.mk none (.extr 39 (.t 33) 0),.mk none (.extr 40 (.t 33) 1),.mk none (.mov 8 (.t 39)),.mk none (.mov 9 (.t 40))]
def f18b12:AQ:=(.seq (.region f18r11) f18b10)
def f18b13:AQ:=(.block 3 f18b12)
def f18b14:AQ:=(.seq f18b13 (.region f18r3))
def f18b15:AQ:=(.cond (.t 30) .skip (.exit 2))
def f18r16:LA:=[.mk none (.mov 27 (.t 7)),.mk none (.mov 28 (.t 0)),.mk none (.len 29 (.t 28)),.mk none (.bin 30 .lss (.t 27) (.t 29))]
def f18b17:AQ:=(.seq (.region f18r16) f18b15)
def f18b18:AQ:=(.seq f18b17 f18b14)
def f18l19:AQ:=.loop [0,6,7] [] f18b18
def f18b20:AQ:=(.block 2 f18l19)
def f18r21:LA:=[.mk none (.mov 7 (.v (.k (.c (.int .i64 0)))))]
def f18b22:AQ:=(.seq (.region f18r21) f18b20)
def f18b23:AQ:=(.seq f18b22 f18b2)
def f18r24:LA:=[.mk none (.mov 6 (.v (.k (.c (.int .i64 1)))))]
def f18b25:AQ:=(.seq (.region f18r24) f18b23)
def f18r26:LA:=[.mk none (.mov 17 (.t 4)),.mk none (.bin 18 .add (.t 17) (.v (.k (.c (.int .i64 1))))),.mk none (.mov 4 (.t 18))]
def f18r27:LA:=[.mk none (.mov 26 (.t 5)),.mk none (.mov 2 (.v (.k (.c (.int .i64 0))))),.mk none (.mov 3 (.t 26))]
def f18b28:AQ:=(.seq (.region f18r27) .ret)
def f18b29:AQ:=(.cond (.t 25) f18b28 .skip)
def f18r30:LA:=[.mk none (.mov 24 (.t 5)),.mk none (.bin 25 .neq (.t 24) (.v (.k (.c (.int .i64 0)))))]
def f18b31:AQ:=(.seq (.region f18r30) f18b29)
def f18r32:LA:=[.mk none (.mov 19 (.t 0)),.mk none (.mov 20 (.t 4)),.mk none (.iaddr 21 2 (.t 19) (.t 20)),.mk none (.load 22 2 true (.t 21)),.mk none (.call (some 23) 41 [(.t 22)]),.mk none (.mov 5 (.t 23))]
def f18b33:AQ:=(.seq (.region f18r32) f18b31)
def f18b34:AQ:=(.block 1 f18b33)
def f18b35:AQ:=(.seq f18b34 (.region f18r26))
def f18b36:AQ:=(.cond (.t 16) .skip (.exit 0))
def f18r37:LA:=[.mk none (.mov 13 (.t 4)),.mk none (.mov 14 (.t 0)),.mk none (.len 15 (.t 14)),.mk none (.bin 16 .lss (.t 13) (.t 15))]
def f18b38:AQ:=(.seq (.region f18r37) f18b36)
def f18b39:AQ:=(.seq f18b38 f18b35)
def f18l40:AQ:=.loop [0,4] [] f18b39
def f18b41:AQ:=(.block 0 f18l40)
def f18r42:LA:=[.mk none (.mov 4 (.v (.k (.c (.int .i64 0)))))]
def f18b43:AQ:=(.seq (.region f18r42) f18b41)
def f18b44:AQ:=(.seq f18b43 f18b25)
def f18r45:LA:=[.mk none (.mov 2 (.v (.k (.c (.int .i64 0))))),.mk none (.mov 3 (.v (.k (.c (.int .i64 6)))))]
def f18b46:AQ:=(.seq (.region f18r45) .ret)
def f18b47:AQ:=(.cond (.t 12) f18b46 .skip)
def f18r48:LA:=[.mk none (.mov 10 (.t 0)),.mk none (.len 11 (.t 10)),.mk none (.bin 12 .gtr (.t 11) (.v (.k (.c (.int .i64 8)))))]
def f18b49:AQ:=(.seq (.region f18r48) f18b47)
def f18b50:AQ:=(.seq f18b49 f18b44)
def f18r51:LA:=[.mk none (.mov 2 (.v (.k (.c (.int .i64 0))))),.mk none (.mov 3 (.v (.k (.c (.int .i64 0)))))]
def f18b52:AQ:=(.seq (.region f18r51) f18b50)
def f18:AQ:=f18b52
theorem hf18:zI Tryz.prog 18=some ⟨53,f18.erase,[(RX.t 2),(RX.t 3)]⟩:=by kernel_rfl
theorem okf18:f18.ok=true:=by kernel_rfl
def f41r1:LA:=[.mk none (.mov 2 (.v (.k (.c (.int .i64 0)))))]
def f41b2:AQ:=(.seq (.region f41r1) .ret)
def f41r3:LA:=[.mk none (.mov 21 (.t 3)),.mk none (.bin 22 .add (.t 21) (.v (.k (.c (.int .i64 1))))),.mk none (.mov 3 (.t 22))]
def f41r4:LA:=[.mk none (.mov 55 (.t 6)),.mk none (.bin 56 .add (.t 55) (.v (.k (.c (.int .i64 1))))),.mk none (.mov 6 (.t 56))]
def f41r5:LA:=[.mk none (.mov 66 (.t 7)),.mk none (.mov 2 (.t 66))]
def f41b6:AQ:=(.seq (.region f41r5) .ret)
def f41b7:AQ:=(.cond (.t 65) f41b6 .skip)
def f41r8:LA:=[.mk none (.mov 64 (.t 7)),.mk none (.bin 65 .neq (.t 64) (.v (.k (.c (.int .i64 0)))))]
def f41b9:AQ:=(.seq (.region f41r8) f41b7)
def f41r10:LA:=[.mk none (.faddr 57 1 (.t 4)),.mk none (.load 58 1 false (.t 57)),.mk none (.mov 59 (.t 6)),.mk none (.iaddr 60 1 (.t 58) (.t 59)),.mk none (.faddr 61 0 (.t 60)),.mk none (.load 62 1 false (.t 61)),.mk none (.call (some 63) 81 [(.t 62)]),.mk none (.mov 7 (.t 63))]
def f41b11:AQ:=(.seq (.region f41r10) f41b9)
def f41b12:AQ:=(.block 5 f41b11)
def f41b13:AQ:=(.seq f41b12 (.region f41r4))
def f41b14:AQ:=(.cond (.t 54) .skip (.exit 4))
def f41r15:LA:=[.mk none (.mov 50 (.t 6)),.mk none (.faddr 51 1 (.t 4)),.mk none (.load 52 1 false (.t 51)),.mk none (.len 53 (.t 52)),.mk none (.bin 54 .lss (.t 50) (.t 53))]
def f41b16:AQ:=(.seq (.region f41r15) f41b14)
def f41b17:AQ:=(.seq f41b16 f41b13)
def f41l18:AQ:=.loop [1,3,4,6] [1,4] f41b17
def f41b19:AQ:=(.block 4 f41l18)
def f41r20:LA:=[.mk none (.mov 6 (.v (.k (.c (.int .i64 0)))))]
def f41b21:AQ:=(.seq (.region f41r20) f41b19)
def f41r22:LA:=[.mk none (.mov 2 (.v (.k (.c (.int .i64 6)))))]
def f41b23:AQ:=(.seq (.region f41r22) .ret)
def f41b24:AQ:=(.cond (.t 49) f41b23 .skip)
def f41r25:LA:=[.mk none (.faddr 46 1 (.t 4)),.mk none (.load 47 1 false (.t 46)),.mk none (.len 48 (.t 47)),.mk none (.bin 49 .gtr (.t 48) (.v (.k (.c (.int .i64 8)))))]
def f41b26:AQ:=(.seq (.region f41r25) f41b24)
def f41b27:AQ:=(.seq f41b26 f41b21)
def f41r28:LA:=[.mk none (.mov 35 (.t 5)),.mk none (.bin 36 .add (.t 35) (.v (.k (.c (.int .i64 1))))),.mk none (.mov 5 (.t 36))]
def f41r29:LA:=[.mk none (.mov 2 (.v (.k (.c (.int .i64 5)))))]
def f41b30:AQ:=(.seq (.region f41r29) .ret)
def f41b31:AQ:=(.cond (.t 45) f41b30 .skip)
def f41r32:LA:=[.mk none (.faddr 37 1 (.t 1)),.mk none (.load 38 1 false (.t 37)),.mk none (.mov 39 (.t 5)),.mk none (.iaddr 40 2 (.t 38) (.t 39)),.mk none (.faddr 41 0 (.t 40)),.mk none (.load 42 1 false (.t 41)),.mk none (.faddr 43 0 (.t 4)),.mk none (.load 44 1 false (.t 43)),.mk none (.bin 45 .eql (.t 42) (.t 44))]
def f41b33:AQ:=(.seq (.draw f41r32 [[],[0],[],[1,2],[3],[4],[],[6],[5,7]]) f41b31)
def f41b34:AQ:=(.block 3 f41b33)
def f41b35:AQ:=(.seq f41b34 (.region f41r28))
def f41b36:AQ:=(.cond (.t 34) .skip (.exit 2))
def f41r37:LA:=[.mk none (.mov 32 (.t 5)),.mk none (.mov 33 (.t 3)),.mk none (.bin 34 .lss (.t 32) (.t 33))]
def f41b38:AQ:=(.seq (.region f41r37) f41b36)
def f41b39:AQ:=(.seq f41b38 f41b35)
def f41l40:AQ:=.loop [1,3,4,5] [1,4] f41b39
def f41b41:AQ:=(.block 2 f41l40)
def f41r42:LA:=[.mk none (.mov 5 (.v (.k (.c (.int .i64 0)))))]
def f41b43:AQ:=(.seq (.region f41r42) f41b41)
def f41b44:AQ:=(.seq f41b43 f41b27)
def f41r45:LA:=[.mk none (.mov 2 (.v (.k (.c (.int .i64 2)))))]
def f41b46:AQ:=(.seq (.region f41r45) .ret)
def f41b47:AQ:=(.cond (.t 31) f41b46 .skip)
def f41r48:LA:=[.mk none (.faddr 28 0 (.t 4)),.mk none (.load 29 1 false (.t 28)),.mk none (.call (some 30) 80 [(.t 29)]),.mk none (.un 31 .not (.t 30))]
def f41b49:AQ:=(.seq (.region f41r48) f41b47)
def f41b50:AQ:=(.seq f41b49 f41b44)
def f41r51:LA:=[.mk none (.faddr 23 1 (.t 1)),.mk none (.load 24 1 false (.t 23)),.mk none (.mov 25 (.t 3)),.mk none (.iaddr 26 2 (.t 24) (.t 25)),.mk none (.load 27 2 true (.t 26)),.mk none (.alloc 4 107 [(.str []),(.list 0 (some true) [])]),.mk none (.store 2 (.t 4) (.t 27))]
def f41b52:AQ:=(.seq (.region f41r51) (.frz 4 f41b50))
def f41b53:AQ:=(.block 1 f41b52)
def f41b54:AQ:=(.seq f41b53 (.region f41r3))
def f41b55:AQ:=(.cond (.t 20) .skip (.exit 0))
def f41r56:LA:=[.mk none (.mov 16 (.t 3)),.mk none (.faddr 17 1 (.t 1)),.mk none (.load 18 1 false (.t 17)),.mk none (.len 19 (.t 18)),.mk none (.bin 20 .lss (.t 16) (.t 19))]
def f41b57:AQ:=(.seq (.region f41r56) f41b55)
def f41b58:AQ:=(.seq f41b57 f41b54)
def f41l59:AQ:=.loop [1,3] [1] f41b58
def f41b60:AQ:=(.block 0 f41l59)
def f41r61:LA:=[.mk none (.mov 3 (.v (.k (.c (.int .i64 0)))))]
def f41b62:AQ:=(.seq (.region f41r61) f41b60)
def f41b63:AQ:=(.seq f41b62 f41b2)
def f41r64:LA:=[.mk none (.mov 2 (.v (.k (.c (.int .i64 6)))))]
def f41b65:AQ:=(.seq (.region f41r64) .ret)
def f41b66:AQ:=(.cond (.t 15) f41b65 .skip)
def f41r67:LA:=[.mk none (.faddr 12 1 (.t 1)),.mk none (.load 13 1 false (.t 12)),.mk none (.len 14 (.t 13)),.mk none (.bin 15 .gtr (.t 14) (.v (.k (.c (.int .i64 12)))))]
def f41b68:AQ:=(.seq (.region f41r67) f41b66)
def f41b69:AQ:=(.seq f41b68 f41b63)
def f41r70:LA:=[.mk none (.mov 2 (.v (.k (.c (.int .i64 2)))))]
def f41b71:AQ:=(.seq (.region f41r70) .ret)
def f41b72:AQ:=(.cond (.t 11) f41b71 .skip)
def f41r73:LA:=[.mk none (.faddr 8 0 (.t 1)),.mk none (.load 9 1 false (.t 8)),.mk none (.call (some 10) 80 [(.t 9)]),.mk none (.un 11 .not (.t 10))]
def f41b74:AQ:=(.seq (.region f41r73) f41b72)
def f41b75:AQ:=(.seq f41b74 f41b69)
def f41r76:LA:=[.mk none (.box 1 58 (.t 0)),.mk none (.mov 2 (.v (.k (.c (.int .i64 0)))))]
def f41b77:AQ:=(.seq (.region f41r76) (.frz 1 f41b75))
def f41:AQ:=f41b77
theorem hf41:zI Tryz.prog 41=some ⟨67,f41.erase,[(RX.t 2)]⟩:=by kernel_rfl
theorem okf41:f41.ok=true:=by kernel_rfl
def f42r1:LA:=[.mk none (.mov 29 (.t 5)),.mk none (.mov 2 (.t 29)),.mk none (.mov 3 (.v (.k (.c (.int .i64 0)))))]
def f42b2:AQ:=(.seq (.region f42r1) .ret)
def f42r3:LA:=[.mk none (.mov 17 (.t 6)),.mk none (.bin 18 .add (.t 17) (.v (.k (.c (.int .i64 1))))),.mk none (.mov 6 (.t 18))]
def f42r4:LA:=[.mk none (.mov 2 (.v (.k (.c (.int .i64 0))))),.mk none (.mov 3 (.v (.k (.c (.int .i64 6)))))]
def f42b5:AQ:=(.seq (.region f42r4) .ret)
def f42b6:AQ:=(.cond (.t 28) f42b5 .skip)
def f42r7:LA:=[.mk none (.mov 27 (.t 5)),.mk none (.bin 28 .gtr (.t 27) (.v (.k (.c (.int .i64 4096)))))]
def f42b8:AQ:=(.seq (.region f42r7) f42b6)
def f42r9:LA:=[.mk none (.mov 19 (.t 5)),.mk none (.faddr 20 1 (.t 1)),.mk none (.load 21 1 false (.t 20)),.mk none (.mov 22 (.t 6)),.mk none (.iaddr 23 2 (.t 21) (.t 22)),.mk none (.load 24 2 true (.t 23)),.mk none (.call (some 25) 82 [(.t 24)]),.mk none (.bin 26 .mul (.t 19) (.t 25)),.mk none (.mov 5 (.t 26))]
def f42b10:AQ:=(.seq (.region f42r9) f42b8)
def f42b11:AQ:=(.block 1 f42b10)
def f42b12:AQ:=(.seq f42b11 (.region f42r3))
def f42b13:AQ:=(.cond (.t 16) .skip (.exit 0))
def f42r14:LA:=[.mk none (.mov 12 (.t 6)),.mk none (.faddr 13 1 (.t 1)),.mk none (.load 14 1 false (.t 13)),.mk none (.len 15 (.t 14)),.mk none (.bin 16 .lss (.t 12) (.t 15))]
def f42b15:AQ:=(.seq (.region f42r14) f42b13)
def f42b16:AQ:=(.seq f42b15 f42b12)
def f42l17:AQ:=.loop [1,5,6] [1] f42b16
def f42b18:AQ:=(.block 0 f42l17)
def f42r19:LA:=[.mk none (.mov 6 (.v (.k (.c (.int .i64 0)))))]
def f42b20:AQ:=(.seq (.region f42r19) f42b18)
def f42b21:AQ:=(.seq f42b20 f42b2)
def f42r22:LA:=[.mk none (.mov 5 (.v (.k (.c (.int .i64 1)))))]
def f42b23:AQ:=(.seq (.region f42r22) f42b21)
def f42r24:LA:=[.mk none (.mov 11 (.t 4)),.mk none (.mov 2 (.v (.k (.c (.int .i64 0))))),.mk none (.mov 3 (.t 11))]
def f42b25:AQ:=(.seq (.region f42r24) .ret)
def f42b26:AQ:=(.cond (.t 10) f42b25 .skip)
def f42r27:LA:=[.mk none (.mov 9 (.t 4)),.mk none (.bin 10 .neq (.t 9) (.v (.k (.c (.int .i64 0)))))]
def f42b28:AQ:=(.seq (.region f42r27) f42b26)
def f42b29:AQ:=(.seq f42b28 f42b23)
def f42r30:LA:=[.mk none (.load 7 2 true (.t 1)),.mk none (.call (some 8) 41 [(.t 7)]),.mk none (.mov 4 (.t 8))]
def f42b31:AQ:=(.seq (.region f42r30) f42b29)
def f42r32:LA:=[.mk none (.box 1 58 (.t 0)),.mk none (.mov 2 (.v (.k (.c (.int .i64 0))))),.mk none (.mov 3 (.v (.k (.c (.int .i64 0)))))]
def f42b33:AQ:=(.seq (.region f42r32) (.frz 1 f42b31))
def f42:AQ:=f42b33
theorem hf42:zI Tryz.prog 42=some ⟨30,f42.erase,[(RX.t 2),(RX.t 3)]⟩:=by kernel_rfl
theorem okf42:f42.ok=true:=by kernel_rfl
def f80r1:LA:=[.mk none (.mov 2 (.v (.k (.c (.bool true)))))]
def f80b2:AQ:=(.seq (.region f80r1) .ret)
def f80r3:LA:=[.mk none (.mov 22 (.t 3)),.mk none (.bin 23 .add (.t 22) (.v (.k (.c (.int .i64 1))))),.mk none (.mov 3 (.t 23))]
def f80r4:LA:=[.mk none (.mov 2 (.v (.k (.c (.bool false)))))]
def f80b5:AQ:=(.seq (.region f80r4) .ret)
def f80b6:AQ:=(.cond (.t 41) f80b5 .skip)
def f80r7:LA:=[.mk none (.mov 24 (.t 0)),.mk none (.mov 25 (.t 3)),.mk none (.sidx 26 (.t 24) (.t 25)),.mk none (.call (some 27) 113 [(.t 26)]),.mk none (.un 28 .not (.t 27)),.mk none (.mov 29 (.t 28)),.mk (some (29,true)) (.mov 30 (.t 0)),.mk (some (29,true)) (.mov 31 (.t 3)),.mk (some (29,true)) (.sidx 32 (.t 30) (.t 31)),.mk (some (29,true)) (.call (some 33) 114 [(.t 32)]),.mk (some (29,true)) (.un 34 .not (.t 33)),.mk none (.pick 35 (.t 29) (.t 34) (.v (.k (.c (.bool false))))),.mk none (.mov 36 (.t 35)),.mk (some (36,true)) (.mov 37 (.t 0)),.mk (some (36,true)) (.mov 38 (.t 3)),.mk (some (36,true)) (.sidx 39 (.t 37) (.t 38)),.mk (some (36,true)) (.bin 40 .neq (.t 39) (.v (.k (.c (.int .u8 95))))),.mk none (.pick 41 (.t 36) (.t 40) (.v (.k (.c (.bool false)))))]
def f80b8:AQ:=(.seq (.region f80r7) f80b6)
def f80b9:AQ:=(.block 1 f80b8)
def f80b10:AQ:=(.seq f80b9 (.region f80r3))
def f80b11:AQ:=(.cond (.t 21) .skip (.exit 0))
def f80r12:LA:=[.mk none (.mov 18 (.t 3)),.mk none (.mov 19 (.t 0)),.mk none (.lenS 20 (.t 19)),.mk none (.bin 21 .lss (.t 18) (.t 20))]
def f80b13:AQ:=(.seq (.region f80r12) f80b11)
def f80b14:AQ:=(.seq f80b13 f80b10)
def f80l15:AQ:=.loop [0,3] [] f80b14
def f80b16:AQ:=(.block 0 f80l15)
def f80r17:LA:=[.mk none (.mov 3 (.v (.k (.c (.int .i64 1)))))]
def f80b18:AQ:=(.seq (.region f80r17) f80b16)
def f80b19:AQ:=(.seq f80b18 f80b2)
def f80r20:LA:=[.mk none (.mov 2 (.v (.k (.c (.bool false)))))]
def f80b21:AQ:=(.seq (.region f80r20) .ret)
def f80b22:AQ:=(.cond (.t 17) f80b21 .skip)
def f80r23:LA:=[.mk none (.mov 4 (.t 0)),.mk none (.lenS 5 (.t 4)),.mk none (.bin 6 .lss (.t 5) (.v (.k (.c (.int .i64 1))))),.mk none (.mov 7 (.t 6)),.mk (some (7,false)) (.mov 8 (.t 0)),.mk (some (7,false)) (.lenS 9 (.t 8)),.mk (some (7,false)) (.bin 10 .gtr (.t 9) (.v (.k (.c (.int .i64 20))))),.mk none (.pick 11 (.t 7) (.v (.k (.c (.bool true)))) (.t 10)),.mk none (.mov 12 (.t 11)),.mk (some (12,false)) (.mov 13 (.t 0)),.mk (some (12,false)) (.sidx 14 (.t 13) (.v (.k (.c (.int .i64 0))))),.mk (some (12,false)) (.call (some 15) 113 [(.t 14)]),.mk (some (12,false)) (.un 16 .not (.t 15)),.mk none (.pick 17 (.t 12) (.v (.k (.c (.bool true)))) (.t 16))]
def f80b24:AQ:=(.seq (.region f80r23) f80b22)
def f80b25:AQ:=(.seq f80b24 f80b19)
def f80r26:LA:=[.mk none (.mov 2 (.v (.k (.c (.bool false)))))]
def f80b27:AQ:=(.seq (.region f80r26) f80b25)
def f80:AQ:=f80b27
theorem hf80:zI Tryz.prog 80=some ⟨42,f80.erase,[(RX.t 2)]⟩:=by kernel_rfl
theorem okf80:f80.ok=true:=by kernel_rfl
def f81r1:LA:=[.mk none (.mov 2 (.v (.k (.c (.int .i64 0)))))]
def f81b2:AQ:=(.seq (.region f81r1) .ret)
def f81r3:LA:=[.mk none (.mov 28 (.t 4)),.mk none (.bin 29 .add (.t 28) (.v (.k (.c (.int .i64 1))))),.mk none (.mov 4 (.t 29))]
def f81r4:LA:=[.mk none (.mov 33 (.t 5)),.mk none (.bin 34 .add (.t 33) (.v (.k (.c (.int .i64 1))))),.mk none (.mov 5 (.t 34))]
def f81r5:LA:=[.mk none (.mov 2 (.v (.k (.c (.int .i64 5)))))]
def f81b6:AQ:=(.seq (.region f81r5) .ret)
def f81b7:AQ:=(.cond (.t 43) f81b6 .skip)
def f81r8:LA:=[.mk none (.mov 35 (.t 0)),.mk none (.mov 36 (.t 4)),.mk none (.iaddr 37 1 (.t 35) (.t 36)),.mk none (.load 38 1 false (.t 37)),.mk none (.mov 39 (.t 0)),.mk none (.mov 40 (.t 5)),.mk none (.iaddr 41 1 (.t 39) (.t 40)),.mk none (.load 42 1 false (.t 41)),.mk none (.bin 43 .eql (.t 38) (.t 42))]
def f81b9:AQ:=(.seq (.draw f81r8 [[],[],[0,1],[2],[],[],[4,5],[6],[3,7]]) f81b7)
def f81b10:AQ:=(.block 5 f81b9)
def f81b11:AQ:=(.seq f81b10 (.region f81r4))
def f81b12:AQ:=(.cond (.t 32) .skip (.exit 4))
def f81r13:LA:=[.mk none (.mov 30 (.t 5)),.mk none (.mov 31 (.t 4)),.mk none (.bin 32 .lss (.t 30) (.t 31))]
def f81b14:AQ:=(.seq (.region f81r13) f81b12)
def f81b15:AQ:=(.seq f81b14 f81b11)
def f81l16:AQ:=.loop [0,4,5] [] f81b15
def f81b17:AQ:=(.block 4 f81l16)
def f81r18:LA:=[.mk none (.mov 5 (.v (.k (.c (.int .i64 0)))))]
def f81b19:AQ:=(.seq (.region f81r18) f81b17)
def f81b20:AQ:=(.block 3 f81b19)
def f81b21:AQ:=(.seq f81b20 (.region f81r3))
def f81b22:AQ:=(.cond (.t 27) .skip (.exit 2))
def f81r23:LA:=[.mk none (.mov 24 (.t 4)),.mk none (.mov 25 (.t 0)),.mk none (.len 26 (.t 25)),.mk none (.bin 27 .lss (.t 24) (.t 26))]
def f81b24:AQ:=(.seq (.region f81r23) f81b22)
def f81b25:AQ:=(.seq f81b24 f81b21)
def f81l26:AQ:=.loop [0,4] [] f81b25
def f81b27:AQ:=(.block 2 f81l26)
def f81r28:LA:=[.mk none (.mov 4 (.v (.k (.c (.int .i64 0)))))]
def f81b29:AQ:=(.seq (.region f81r28) f81b27)
def f81b30:AQ:=(.seq f81b29 f81b2)
def f81r31:LA:=[.mk none (.mov 16 (.t 3)),.mk none (.bin 17 .add (.t 16) (.v (.k (.c (.int .i64 1))))),.mk none (.mov 3 (.t 17))]
def f81r32:LA:=[.mk none (.mov 2 (.v (.k (.c (.int .i64 2)))))]
def f81b33:AQ:=(.seq (.region f81r32) .ret)
def f81b34:AQ:=(.cond (.t 23) f81b33 .skip)
def f81r35:LA:=[.mk none (.mov 18 (.t 0)),.mk none (.mov 19 (.t 3)),.mk none (.iaddr 20 1 (.t 18) (.t 19)),.mk none (.load 21 1 false (.t 20)),.mk none (.call (some 22) 115 [(.t 21)]),.mk none (.un 23 .not (.t 22))]
def f81b36:AQ:=(.seq (.region f81r35) f81b34)
def f81b37:AQ:=(.block 1 f81b36)
def f81b38:AQ:=(.seq f81b37 (.region f81r31))
def f81b39:AQ:=(.cond (.t 15) .skip (.exit 0))
def f81r40:LA:=[.mk none (.mov 12 (.t 3)),.mk none (.mov 13 (.t 0)),.mk none (.len 14 (.t 13)),.mk none (.bin 15 .lss (.t 12) (.t 14))]
def f81b41:AQ:=(.seq (.region f81r40) f81b39)
def f81b42:AQ:=(.seq f81b41 f81b38)
def f81l43:AQ:=.loop [0,3] [] f81b42
def f81b44:AQ:=(.block 0 f81l43)
def f81r45:LA:=[.mk none (.mov 3 (.v (.k (.c (.int .i64 0)))))]
def f81b46:AQ:=(.seq (.region f81r45) f81b44)
def f81b47:AQ:=(.seq f81b46 f81b30)
def f81r48:LA:=[.mk none (.mov 2 (.v (.k (.c (.int .i64 4)))))]
def f81b49:AQ:=(.seq (.region f81r48) .ret)
def f81b50:AQ:=(.cond (.t 11) f81b49 .skip)
def f81r51:LA:=[.mk none (.mov 9 (.t 0)),.mk none (.len 10 (.t 9)),.mk none (.bin 11 .eql (.t 10) (.v (.k (.c (.int .i64 0)))))]
def f81b52:AQ:=(.seq (.region f81r51) f81b50)
def f81b53:AQ:=(.seq f81b52 f81b47)
def f81r54:LA:=[.mk none (.mov 2 (.v (.k (.c (.int .i64 6)))))]
def f81b55:AQ:=(.seq (.region f81r54) .ret)
def f81b56:AQ:=(.cond (.t 8) f81b55 .skip)
def f81r57:LA:=[.mk none (.mov 6 (.t 0)),.mk none (.len 7 (.t 6)),.mk none (.bin 8 .gtr (.t 7) (.v (.k (.c (.int .i64 4)))))]
def f81b58:AQ:=(.seq (.region f81r57) f81b56)
def f81b59:AQ:=(.seq f81b58 f81b53)
def f81r60:LA:=[.mk none (.mov 2 (.v (.k (.c (.int .i64 0)))))]
def f81b61:AQ:=(.seq (.region f81r60) f81b59)
def f81:AQ:=f81b61
theorem hf81:zI Tryz.prog 81=some ⟨44,f81.erase,[(RX.t 2)]⟩:=by kernel_rfl
theorem okf81:f81.ok=true:=by kernel_rfl
def f82r1:LA:=[.mk none (.mov 21 (.t 3)),.mk none (.mov 2 (.t 21))]
def f82b2:AQ:=(.seq (.region f82r1) .ret)
def f82r3:LA:=[.mk none (.mov 10 (.t 4)),.mk none (.bin 11 .add (.t 10) (.v (.k (.c (.int .i64 1))))),.mk none (.mov 4 (.t 11))]
def f82r4:LA:=[.mk none (.mov 12 (.t 3)),.mk none (.faddr 13 1 (.t 1)),.mk none (.load 14 1 false (.t 13)),.mk none (.mov 15 (.t 4)),.mk none (.iaddr 16 1 (.t 14) (.t 15)),.mk none (.faddr 17 0 (.t 16)),.mk none (.load 18 1 false (.t 17)),.mk none (.len 19 (.t 18)),.mk none (.bin 20 .mul (.t 12) (.t 19)),.mk none (.mov 3 (.t 20))]
def f82b5:AQ:=(.block 1 (.region f82r4))
def f82b6:AQ:=(.seq f82b5 (.region f82r3))
def f82b7:AQ:=(.cond (.t 9) .skip (.exit 0))
def f82r8:LA:=[.mk none (.mov 5 (.t 4)),.mk none (.faddr 6 1 (.t 1)),.mk none (.load 7 1 false (.t 6)),.mk none (.len 8 (.t 7)),.mk none (.bin 9 .lss (.t 5) (.t 8))]
def f82b9:AQ:=(.seq (.region f82r8) f82b7)
def f82b10:AQ:=(.seq f82b9 f82b6)
def f82l11:AQ:=.loop [1,3,4] [1] f82b10
def f82b12:AQ:=(.block 0 f82l11)
def f82r13:LA:=[.mk none (.mov 4 (.v (.k (.c (.int .i64 0)))))]
def f82b14:AQ:=(.seq (.region f82r13) f82b12)
def f82b15:AQ:=(.seq f82b14 f82b2)
def f82r16:LA:=[.mk none (.mov 3 (.v (.k (.c (.int .i64 1)))))]
def f82b17:AQ:=(.seq (.region f82r16) f82b15)
def f82r18:LA:=[.mk none (.box 1 107 (.t 0)),.mk none (.mov 2 (.v (.k (.c (.int .i64 0)))))]
def f82b19:AQ:=(.seq (.region f82r18) (.frz 1 f82b17))
def f82:AQ:=f82b19
theorem hf82:zI Tryz.prog 82=some ⟨22,f82.erase,[(RX.t 2)]⟩:=by kernel_rfl
theorem okf82:f82.ok=true:=by kernel_rfl
def f113r1:LA:=[.mk none (.mov 3 (.t 0)),.mk none (.bin 4 .geq (.t 3) (.v (.k (.c (.int .u8 97))))),.mk none (.mov 5 (.t 4)),.mk (some (5,true)) (.mov 6 (.t 0)),.mk (some (5,true)) (.bin 7 .leq (.t 6) (.v (.k (.c (.int .u8 122))))),.mk none (.pick 8 (.t 5) (.t 7) (.v (.k (.c (.bool false))))),.mk none (.mov 9 (.t 8)),.mk (some (9,false)) (.mov 10 (.t 0)),.mk (some (9,false)) (.bin 11 .geq (.t 10) (.v (.k (.c (.int .u8 65))))),.mk (some (9,false)) (.mov 12 (.t 11)),.mk (some (12,true)) (.mov 13 (.t 0)),.mk (some (12,true)) (.bin 14 .leq (.t 13) (.v (.k (.c (.int .u8 90))))),.mk (some (9,false)) (.pick 15 (.t 12) (.t 14) (.v (.k (.c (.bool false))))),.mk none (.pick 16 (.t 9) (.v (.k (.c (.bool true)))) (.t 15)),.mk none (.mov 2 (.t 16))]
def f113b2:AQ:=(.seq (.region f113r1) .ret)
def f113r3:LA:=[.mk none (.mov 2 (.v (.k (.c (.bool false)))))]
def f113b4:AQ:=(.seq (.region f113r3) f113b2)
def f113:AQ:=f113b4
theorem hf113:zI Tryz.prog 113=some ⟨17,f113.erase,[(RX.t 2)]⟩:=by kernel_rfl
theorem okf113:f113.ok=true:=by kernel_rfl
def f114r1:LA:=[.mk none (.mov 3 (.t 0)),.mk none (.bin 4 .geq (.t 3) (.v (.k (.c (.int .u8 48))))),.mk none (.mov 5 (.t 4)),.mk (some (5,true)) (.mov 6 (.t 0)),.mk (some (5,true)) (.bin 7 .leq (.t 6) (.v (.k (.c (.int .u8 57))))),.mk none (.pick 8 (.t 5) (.t 7) (.v (.k (.c (.bool false))))),.mk none (.mov 2 (.t 8))]
def f114b2:AQ:=(.seq (.region f114r1) .ret)
def f114r3:LA:=[.mk none (.mov 2 (.v (.k (.c (.bool false)))))]
def f114b4:AQ:=(.seq (.region f114r3) f114b2)
def f114:AQ:=f114b4
theorem hf114:zI Tryz.prog 114=some ⟨9,f114.erase,[(RX.t 2)]⟩:=by kernel_rfl
theorem okf114:f114.ok=true:=by kernel_rfl
def f115r1:LA:=[.mk none (.mov 20 (.t 0)),.mk none (.lenS 21 (.t 20)),.mk none (.bin 22 .geq (.t 21) (.v (.k (.c (.int .i64 1))))),.mk none (.mov 23 (.t 22)),.mk (some (23,true)) (.mov 24 (.t 0)),.mk (some (23,true)) (.lenS 25 (.t 24)),.mk (some (23,true)) (.bin 26 .leq (.t 25) (.v (.k (.c (.int .i64 20))))),.mk none (.pick 27 (.t 23) (.t 26) (.v (.k (.c (.bool false))))),.mk none (.mov 2 (.t 27))]
def f115b2:AQ:=(.seq (.region f115r1) .ret)
def f115r3:LA:=[.mk none (.mov 8 (.t 3)),.mk none (.bin 9 .add (.t 8) (.v (.k (.c (.int .i64 1))))),.mk none (.mov 3 (.t 9))]
def f115r4:LA:=[.mk none (.mov 2 (.v (.k (.c (.bool false)))))]
def f115b5:AQ:=(.seq (.region f115r4) .ret)
def f115b6:AQ:=(.cond (.t 19) f115b5 .skip)
def f115r7:LA:=[.mk none (.mov 10 (.t 0)),.mk none (.mov 11 (.t 3)),.mk none (.sidx 12 (.t 10) (.t 11)),.mk none (.bin 13 .lss (.t 12) (.v (.k (.c (.int .u8 33))))),.mk none (.mov 14 (.t 13)),.mk (some (14,false)) (.mov 15 (.t 0)),.mk (some (14,false)) (.mov 16 (.t 3)),.mk (some (14,false)) (.sidx 17 (.t 15) (.t 16)),.mk (some (14,false)) (.bin 18 .gtr (.t 17) (.v (.k (.c (.int .u8 126))))),.mk none (.pick 19 (.t 14) (.v (.k (.c (.bool true)))) (.t 18))]
def f115b8:AQ:=(.seq (.region f115r7) f115b6)
def f115b9:AQ:=(.block 1 f115b8)
def f115b10:AQ:=(.seq f115b9 (.region f115r3))
def f115b11:AQ:=(.cond (.t 7) .skip (.exit 0))
def f115r12:LA:=[.mk none (.mov 4 (.t 3)),.mk none (.mov 5 (.t 0)),.mk none (.lenS 6 (.t 5)),.mk none (.bin 7 .lss (.t 4) (.t 6))]
def f115b13:AQ:=(.seq (.region f115r12) f115b11)
def f115b14:AQ:=(.seq f115b13 f115b10)
def f115l15:AQ:=.loop [0,3] [] f115b14
def f115b16:AQ:=(.block 0 f115l15)
def f115r17:LA:=[.mk none (.mov 3 (.v (.k (.c (.int .i64 0)))))]
def f115b18:AQ:=(.seq (.region f115r17) f115b16)
def f115b19:AQ:=(.seq f115b18 f115b2)
def f115r20:LA:=[.mk none (.mov 2 (.v (.k (.c (.bool false)))))]
def f115b21:AQ:=(.seq (.region f115r20) f115b19)
def f115:AQ:=f115b21
theorem hf115:zI Tryz.prog 115=some ⟨28,f115.erase,[(RX.t 2)]⟩:=by kernel_rfl
theorem okf115:f115.ok=true:=by kernel_rfl
def f3r1:LA:=[.mk none (.mov 128 (.t 7)),.mk none (.mov 129 (.t 128)),.mk (some (129,true)) (.mov 130 (.t 12)),.mk (some (129,true)) (.mov 131 (.t 0)),.mk (some (129,true)) (.mov 132 (.t 10)),.mk (some (129,true)) (.mov 133 (.t 1)),.mk (some (129,true)) (.call (some 134) 11 [(.t 131),(.t 132),(.t 133)]),.mk (some (129,true)) (.un 135 .not (.t 134)),.mk (some (129,true)) (.binB 136 false (.t 130) (.t 135)),.mk none (.pick 137 (.t 129) (.t 136) (.v (.k (.c (.bool false))))),.mk none (.mov 6 (.t 137))]
def f3b2:AQ:=(.seq (.region f3r1) .ret)
def f3r3:LA:=[.mk none (.mov 57 (.t 13)),.mk none (.bin 58 .add (.t 57) (.v (.k (.c (.int .i64 1))))),.mk none (.mov 13 (.t 58))]
def f3r4:LA:=[.mk none (.mov 124 (.t 12)),.mk none (.mov 125 (.t 124)),.mk (some (125,false)) (.mov 126 (.t 15)),.mk none (.pick 127 (.t 125) (.v (.k (.c (.bool true)))) (.t 126)),.mk none (.mov 12 (.t 127))]
def f3r5:LA:=[.mk none (.mov 83 (.t 16)),.mk none (.bin 84 .add (.t 83) (.v (.k (.c (.int .i64 1))))),.mk none (.mov 16 (.t 84))]
def f3r6:LA:=[.mk none (.mov 113 (.t 15)),.mk none (.mov 114 (.t 113)),.mk (some (114,true)) (.mov 115 (.t 2)),.mk (some (114,true)) (.mov 116 (.t 14)),.mk (some (114,true)) (.mov 117 (.t 16)),.mk (some (114,true)) (.iaddr 118 1 (.t 116) (.t 117)),.mk (some (114,true)) (.load 119 1 false (.t 118)),.mk (some (114,true)) (.bin 120 .shr (.t 115) (.t 119)),.mk (some (114,true)) (.bin 121 .and (.t 120) (.v (.k (.c (.int .u8 1))))),.mk (some (114,true)) (.bin 122 .eql (.t 121) (.v (.k (.c (.int .u8 1))))),.mk none (.pick 123 (.t 114) (.t 122) (.v (.k (.c (.bool false))))),.mk none (.mov 15 (.t 123))]
def f3r7:LA:=[.mk none (.mov 6 (.v (.k (.c (.bool false)))))]
def f3b8:AQ:=(.seq (.region f3r7) .ret)
def f3b9:AQ:=(.cond (.t 112) f3b8 .skip)
def f3r10o0:AI:=.mk none (.mov 85 (.t 0))
def f3r10o1:AI:=.mk none (.bslice 86 3 1 [(.int .i64 0)] 0 [])
def f3r10o2:AI:=.mk none (.mov 87 (.t 14))
def f3r10o3:AI:=.mk none (.mov 88 (.t 16))
def f3r10o4:AI:=.mk none (.slice 89 1 (.t 87) none (some (.t 88)))
def f3r10o5:AI:=.mk none (.append 90 3 1 8 (.t 86) (.t 89))
def f3r10o6:AI:=.mk none (.mov 91 (.t 14))
def f3r10o7:AI:=.mk none (.mov 92 (.t 16))
def f3r10o8:AI:=.mk none (.bin 93 .add (.t 92) (.v (.k (.c (.int .i64 1)))))
def f3r10o9:AI:=.mk none (.slice 94 1 (.t 91) (some (.t 93)) none)
def f3r10o10:AI:=.mk none (.append 95 3 1 8 (.t 90) (.t 94))
def f3r10o11:AI:=.mk none (.mov 96 (.t 1))
def f3r10o12:AI:=.mk none (.call (some 97) 11 [(.t 85),(.t 95),(.t 96)])
def f3r10o13:AI:=.mk none (.un 98 .not (.t 97))
def f3r10o14:AI:=.mk none (.mov 99 (.t 98))
def f3r10o15:AI:=.mk (some (99,false)) (.mov 100 (.t 14))
def f3r10o16:AI:=.mk (some (99,false)) (.mov 101 (.t 16))
def f3r10o17:AI:=.mk (some (99,false)) (.iaddr 102 1 (.t 100) (.t 101))
def f3r10o18:AI:=.mk (some (99,false)) (.load 103 1 false (.t 102))
def f3r10o19:AI:=.mk (some (99,false)) (.bin 104 .lss (.t 103) (.v (.k (.c (.int .i64 0)))))
def f3r10o20:AI:=.mk none (.pick 105 (.t 99) (.v (.k (.c (.bool true)))) (.t 104))
def f3r10o21:AI:=.mk none (.mov 106 (.t 105))
def f3r10o22:AI:=.mk (some (106,false)) (.mov 107 (.t 14))
def f3r10o23:AI:=.mk (some (106,false)) (.mov 108 (.t 16))
def f3r10o24:AI:=.mk (some (106,false)) (.iaddr 109 1 (.t 107) (.t 108))
def f3r10o25:AI:=.mk (some (106,false)) (.load 110 1 false (.t 109))
def f3r10o26:AI:=.mk (some (106,false)) (.bin 111 .gtr (.t 110) (.v (.k (.c (.int .i64 7)))))
def f3r10o27:AI:=.mk none (.pick 112 (.t 106) (.v (.k (.c (.bool true)))) (.t 111))
def f3r10:LA:=[f3r10o0,f3r10o1,f3r10o2,f3r10o3,f3r10o4,f3r10o5,f3r10o6,f3r10o7,f3r10o8,f3r10o9,f3r10o10,f3r10o11,f3r10o12,f3r10o13,f3r10o14,f3r10o15,f3r10o16,f3r10o17,f3r10o18,f3r10o19,f3r10o20,f3r10o21,f3r10o22,f3r10o23,f3r10o24,f3r10o25,f3r10o26,f3r10o27]
theorem zlY:oL f3r10 [[],[],[],[],[2,3],[1,4],[],[],[7],[6,8],[5,9,5],[],[0,10,11,10],[12],[13,12],[14],[14],[15,16,14],[17,14],[18,14],[14,19],[20,14],[21],[21],[22,23,21],[24,21],[25,21],[21,26]]=(.one f3r10o1 (.one f3r10o2 (.one f3r10o3 (.one f3r10o4 (.one f3r10o5 (.one f3r10o6 (.one f3r10o7 (.one f3r10o8 (.one f3r10o9 (.one f3r10o10 (.one f3r10o0 (.one f3r10o11 (.one f3r10o12 (.one f3r10o13 (.one f3r10o14 (.one f3r10o15 (.one f3r10o16 (.one f3r10o17 (.one f3r10o18 (.one f3r10o19 (.one f3r10o20 (.one f3r10o21 (.one f3r10o22 (.one f3r10o23 (.one f3r10o24 (.one f3r10o25 (.one f3r10o26 (.one f3r10o27 .done)))))))))))))))))))))))))))):=by kernel_rfl
def f3b11:AQ:=(.seq (.tree f3r10 [[],[],[],[],[2,3],[1,4],[],[],[7],[6,8],[5,9,5],[],[0,10,11,10],[12],[13,12],[14],[14],[15,16,14],[17,14],[18,14],[14,19],[20,14],[21],[21],[22,23,21],[24,21],[25,21],[21,26]]) (.keep [0,1,2,7,8,10,12,13,14,15,16,112] [26,37,52,27000,27001,27002] f3b9))
def f3b12:AQ:=(.seq f3b11 (.region f3r6))
def f3b13:AQ:=(.block 5 f3b12)
def f3b14:AQ:=(.seq f3b13 (.region f3r5))
def f3b15:AQ:=(.cond (.t 82) .skip (.exit 4))
def f3r16:LA:=[.mk none (.mov 79 (.t 16)),.mk none (.mov 80 (.t 14)),.mk none (.len 81 (.t 80)),.mk none (.bin 82 .lss (.t 79) (.t 81))]
def f3b17:AQ:=(.seq (.region f3r16) f3b15)
def f3b18:AQ:=(.seq f3b17 f3b14)
def f3l19:AQ:=.loop [0,1,2,7,8,10,12,13,14,15,16] [26,37,52,27000,27001,27002] f3b18
def f3b20:AQ:=(.block 4 f3l19)
def f3r21:LA:=[.mk none (.mov 16 (.v (.k (.c (.int .i64 0)))))]
def f3b22:AQ:=(.seq (.region f3r21) f3b20)
def f3b23:AQ:=(.seq f3b22 (.region f3r4))
def f3r24:LA:=[.mk none (.mov 15 (.v (.k (.c (.bool true)))))]
def f3b25:AQ:=(.seq (.region f3r24) f3b23)
def f3r26:LA:=[.mk none (.mov 6 (.v (.k (.c (.bool false)))))]
def f3b27:AQ:=(.seq (.region f3r26) .ret)
def f3b28:AQ:=(.cond (.t 78) f3b27 .skip)
def f3r29:LA:=[.mk none (.mov 70 (.t 14)),.mk none (.len 71 (.t 70)),.mk none (.bin 72 .eql (.t 71) (.v (.k (.c (.int .i64 0))))),.mk none (.mov 73 (.t 72)),.mk (some (73,false)) (.mov 74 (.t 0)),.mk (some (73,false)) (.mov 75 (.t 14)),.mk (some (73,false)) (.mov 76 (.t 1)),.mk (some (73,false)) (.call (some 77) 11 [(.t 74),(.t 75),(.t 76)]),.mk none (.pick 78 (.t 73) (.v (.k (.c (.bool true)))) (.t 77))]
def f3b30:AQ:=(.seq (.region f3r29) f3b28)
def f3b31:AQ:=(.seq f3b30 f3b25)
def f3b32:AQ:=(.cond (.t 69) (.exit 3) .skip)
def f3r33:LA:=[.mk none (.mov 64 (.t 8)),.mk none (.mov 65 (.t 13)),.mk none (.iaddr 66 3 (.t 64) (.t 65)),.mk none (.faddr 67 2 (.t 66)),.mk none (.load 68 1 false (.t 67)),.mk none (.un 69 .not (.t 68))]
def f3b34:AQ:=(.seq (.region f3r33) f3b32)
def f3b35:AQ:=(.seq f3b34 f3b31)
def f3r36:LA:=[.mk none (.mov 59 (.t 8)),.mk none (.mov 60 (.t 13)),.mk none (.iaddr 61 3 (.t 59) (.t 60)),.mk none (.faddr 62 0 (.t 61)),.mk none (.load 63 1 false (.t 62)),.mk none (.mov 14 (.t 63))]
def f3b37:AQ:=(.seq (.region f3r36) f3b35)
def f3b38:AQ:=(.block 3 f3b37)
def f3b39:AQ:=(.seq f3b38 (.region f3r3))
def f3b40:AQ:=(.cond (.t 56) .skip (.exit 2))
def f3r41:LA:=[.mk none (.mov 53 (.t 13)),.mk none (.mov 54 (.t 8)),.mk none (.len 55 (.t 54)),.mk none (.bin 56 .lss (.t 53) (.t 55))]
def f3b42:AQ:=(.seq (.region f3r41) f3b40)
def f3b43:AQ:=(.seq f3b42 f3b39)
def f3l44:AQ:=.loop [0,1,2,7,8,10,12,13] [26,37,52,27000,27001,27002] f3b43
def f3b45:AQ:=(.block 2 f3l44)
def f3r46:LA:=[.mk none (.mov 13 (.v (.k (.c (.int .i64 0)))))]
def f3b47:AQ:=(.seq (.region f3r46) f3b45)
def f3b48:AQ:=(.seq f3b47 f3b2)
def f3r49:LA:=[.mk none (.mov 12 (.v (.k (.c (.bool false)))))]
def f3b50:AQ:=(.seq (.region f3r49) f3b48)
def f3r51:LA:=[.mk none (.mov 42 (.t 11)),.mk none (.bin 43 .add (.t 42) (.v (.k (.c (.int .i64 1))))),.mk none (.mov 11 (.t 43))]
def f3r52:LA:=[.mk none (.mov 49 (.t 10)),.mk none (.mov 50 (.t 11)),.mk none (.bslice 51 3 1 [(.int .i64 0)] 1 [(0,(.t 50))]),.mk none (.append 52 3 1 8 (.t 49) (.t 51)),.mk none (.mov 10 (.t 52))]
def f3b53:AQ:=(.cond (.t 48) (.region f3r52) .skip)
def f3r54:LA:=[.mk none (.mov 44 (.t 2)),.mk none (.mov 45 (.t 11)),.mk none (.bin 46 .shr (.t 44) (.t 45)),.mk none (.bin 47 .and (.t 46) (.v (.k (.c (.int .u8 1))))),.mk none (.bin 48 .eql (.t 47) (.v (.k (.c (.int .u8 1)))))]
def f3b55:AQ:=(.seq (.region f3r54) f3b53)
def f3b56:AQ:=(.block 1 f3b55)
def f3b57:AQ:=(.seq f3b56 (.region f3r51))
def f3b58:AQ:=(.cond (.t 41) .skip (.exit 0))
def f3r59:LA:=[.mk none (.mov 38 (.t 11)),.mk none (.mov 39 (.t 0)),.mk none (.len 40 (.t 39)),.mk none (.bin 41 .lss (.t 38) (.t 40))]
def f3b60:AQ:=(.seq (.region f3r59) f3b58)
def f3b61:AQ:=(.seq f3b60 f3b57)
def f3l62:AQ:=.loop [0,1,2,7,8,10,11] [26,37,52,27000,27001,27002] f3b61
def f3b63:AQ:=(.block 0 f3l62)
def f3r64:LA:=[.mk none (.mov 11 (.v (.k (.c (.int .i64 0)))))]
def f3b65:AQ:=(.seq (.region f3r64) f3b63)
def f3b66:AQ:=(.seq f3b65 f3b50)
def f3r67:LA:=[.mk none (.bslice 37 3 1 [(.int .i64 0)] 0 []),.mk none (.mov 10 (.t 37))]
def f3b68:AQ:=(.seq (.region f3r67) f3b66)
def f3r69:LA:=[.mk none (.mov 31 (.t 7)),.mk none (.mov 32 (.t 31)),.mk (some (32,true)) (.mov 33 (.t 8)),.mk (some (32,true)) (.len 34 (.t 33)),.mk (some (32,true)) (.bin 35 .eql (.t 34) (.v (.k (.c (.int .i64 0))))),.mk none (.pick 36 (.t 32) (.t 35) (.v (.k (.c (.bool false))))),.mk none (.mov 6 (.t 36))]
def f3b70:AQ:=(.seq (.region f3r69) .ret)
def f3b71:AQ:=(.cond (.t 30) f3b70 .skip)
def f3r72:LA:=[.mk none (.mov 29 (.t 9)),.mk none (.bin 30 .neq (.t 29) (.v (.k (.c (.int .i64 0)))))]
def f3b73:AQ:=(.seq (.region f3r72) f3b71)
def f3b74:AQ:=(.seq f3b73 f3b68)
def f3r75:LA:=[.mk none (.mov 24 (.t 0)),.mk none (.mov 25 (.t 1)),.mk none (.call (some 26) 10 [(.t 24),(.t 25)]),.mk none (.mov 23 (.t 26)),.mk none (.extr 27 (.t 23) 0),.mk none (.extr 28 (.t 23) 1),.mk none (.mov 8 (.t 27)),.mk none (.mov 9 (.t 28))]
def f3b76:AQ:=(.seq (.region f3r75) f3b74)
def f3r77:LA:=[.mk none (.mov 22 (.t 7)),.mk none (.mov 6 (.t 22))]
def f3b78:AQ:=(.seq (.region f3r77) .ret)
def f3b79:AQ:=(.cond (.t 21) f3b78 .skip)
def f3r80:LA:=[.mk none (.mov 18 (.t 0)),.mk none (.mov 19 (.t 1)),.mk none (.call (some 20) 9 [(.t 18),(.t 19)]),.mk none (.un 21 .not (.t 20))]
def f3b81:AQ:=(.seq (.region f3r80) f3b79)
def f3b82:AQ:=(.seq f3b81 f3b76)
def f3r83:LA:=[.mk none (.call (some 17) 8 []),.mk none (.mov 7 (.t 17))]
def f3b84:AQ:=(.seq (.region f3r83) f3b82)
def f3r85:LA:=[.mk none (.mov 6 (.v (.k (.c (.bool false)))))]
def f3b86:AQ:=(.seq (.region f3r85) f3b84)
def f3:AQ:=f3b86
theorem hf3:zI Tryz.prog 3=some ⟨138,f3.erase,[(RX.t 6)]⟩:=by kernel_rfl
theorem okf3:f3.ok=true:=by kernel_rfl
def f4r1:LA:=[.mk none (.mov 193 (.t 7)),.mk none (.mov 194 (.t 193)),.mk (some (194,true)) (.mov 195 (.t 15)),.mk (some (194,true)) (.bin 196 .eql (.t 195) (.v (.k (.c (.int .i64 0))))),.mk none (.pick 197 (.t 194) (.t 196) (.v (.k (.c (.bool false))))),.mk none (.mov 198 (.t 197)),.mk (some (198,true)) (.mov 199 (.t 17)),.mk (some (198,true)) (.mov 200 (.t 16)),.mk (some (198,true)) (.len 201 (.t 200)),.mk (some (198,true)) (.bin 202 .eql (.t 199) (.t 201)),.mk none (.pick 203 (.t 198) (.t 202) (.v (.k (.c (.bool false))))),.mk none (.mov 204 (.t 203)),.mk (some (204,true)) (.mov 205 (.t 10)),.mk (some (204,true)) (.bin 206 .eql (.t 205) (.v (.k (.c (.int .i64 0))))),.mk (some (204,true)) (.mov 207 (.t 18)),.mk (some (204,true)) (.binB 208 false (.t 206) (.t 207)),.mk none (.pick 209 (.t 204) (.t 208) (.v (.k (.c (.bool false))))),.mk none (.mov 210 (.t 209)),.mk (some (210,true)) (.mov 211 (.t 10)),.mk (some (210,true)) (.bin 212 .eql (.t 211) (.v (.k (.c (.int .i64 1))))),.mk (some (210,true)) (.mov 213 (.t 8)),.mk (some (210,true)) (.len 214 (.t 213)),.mk (some (210,true)) (.bin 215 .eql (.t 214) (.v (.k (.c (.int .i64 0))))),.mk (some (210,true)) (.binB 216 false (.t 212) (.t 215)),.mk none (.pick 217 (.t 210) (.t 216) (.v (.k (.c (.bool false))))),.mk none (.mov 6 (.t 217))]
def f4b2:AQ:=(.seq (.region f4r1) .ret)
def f4r3:LA:=[.mk none (.mov 87 (.t 19)),.mk none (.bin 88 .add (.t 87) (.v (.k (.c (.int .i64 1))))),.mk none (.mov 19 (.t 88))]
def f4r4:LA:=[.mk none (.mov 6 (.v (.k (.c (.bool false)))))]
def f4b5:AQ:=(.seq (.region f4r4) .ret)
def f4b6:AQ:=(.cond (.t 192) f4b5 .skip)
def f4r7:LA:=[.mk none (.mov 192 (.t 24))]
def f4b8:AQ:=(.seq (.region f4r7) f4b6)
def f4r9:LA:=[.mk none (.mov 181 (.t 25)),.mk none (.bin 182 .add (.t 181) (.v (.k (.c (.int .i64 1))))),.mk none (.mov 25 (.t 182))]
def f4r10:LA:=[.mk none (.mov 183 (.t 24)),.mk none (.mov 184 (.t 183)),.mk (some (184,true)) (.mov 185 (.t 0)),.mk (some (184,true)) (.faddr 186 0 (.t 20)),.mk (some (184,true)) (.load 187 1 false (.t 186)),.mk (some (184,true)) (.mov 188 (.t 1)),.mk (some (184,true)) (.mov 189 (.t 25)),.mk (some (184,true)) (.call (some 190) 17 [(.t 185),(.t 187),(.t 188),(.t 189)]),.mk none (.pick 191 (.t 184) (.t 190) (.v (.k (.c (.bool false))))),.mk none (.mov 24 (.t 191))]
def f4b11:AQ:=(.block 7 (.region f4r10))
def f4b12:AQ:=(.seq f4b11 (.region f4r9))
def f4b13:AQ:=(.cond (.t 180) .skip (.exit 6))
def f4r14:LA:=[.mk none (.mov 178 (.t 25)),.mk none (.mov 179 (.t 12)),.mk none (.bin 180 .lss (.t 178) (.t 179))]
def f4b15:AQ:=(.seq (.region f4r14) f4b13)
def f4b16:AQ:=(.seq f4b15 f4b12)
def f4l17:AQ:=.loop [0,1,7,8,10,12,14,15,16,17,18,19,20,24,25] [20,35,77,82,36000,36001,36002,78000,78001,78002,83000,83001,83002] f4b16
def f4b18:AQ:=(.block 6 f4l17)
def f4r19:LA:=[.mk none (.mov 25 (.v (.k (.c (.int .i64 0)))))]
def f4b20:AQ:=(.seq (.region f4r19) f4b18)
def f4b21:AQ:=(.seq f4b20 f4b8)
def f4r22:LA:=[.mk none (.faddr 175 2 (.t 20)),.mk none (.load 176 1 false (.t 175)),.mk none (.un 177 .not (.t 176)),.mk none (.mov 24 (.t 177))]
def f4b23:AQ:=(.seq (.region f4r22) f4b21)
def f4r24:LA:=[.mk none (.mov 6 (.v (.k (.c (.bool false)))))]
def f4b25:AQ:=(.seq (.region f4r24) .ret)
def f4b26:AQ:=(.cond (.t 174) f4b25 .skip)
def f4r27:LA:=[.mk none (.mov 141 (.t 22)),.mk none (.faddr 142 1 (.t 20)),.mk none (.load 143 1 false (.t 142)),.mk none (.len 144 (.t 143)),.mk none (.bin 145 .lss (.t 141) (.t 144)),.mk none (.mov 146 (.t 145)),.mk (some (146,false)) (.mov 147 (.t 22)),.mk (some (146,false)) (.bin 148 .gtr (.t 147) (.v (.k (.c (.int .i64 0))))),.mk (some (146,false)) (.mov 149 (.t 148)),.mk (some (149,true)) (.faddr 150 1 (.t 20)),.mk (some (149,true)) (.load 151 1 false (.t 150)),.mk (some (149,true)) (.len 152 (.t 151)),.mk (some (149,true)) (.bin 153 .eql (.t 152) (.v (.k (.c (.int .i64 0))))),.mk (some (146,false)) (.pick 154 (.t 149) (.t 153) (.v (.k (.c (.bool false))))),.mk none (.pick 155 (.t 146) (.v (.k (.c (.bool true)))) (.t 154)),.mk none (.mov 156 (.t 155)),.mk (some (156,false)) (.faddr 157 2 (.t 20)),.mk (some (156,false)) (.load 158 1 false (.t 157)),.mk (some (156,false)) (.un 159 .not (.t 158)),.mk (some (156,false)) (.mov 160 (.t 159)),.mk (some (160,true)) (.faddr 161 0 (.t 20)),.mk (some (160,true)) (.load 162 1 false (.t 161)),.mk (some (160,true)) (.len 163 (.t 162)),.mk (some (160,true)) (.bin 164 .neq (.t 163) (.v (.k (.c (.int .i64 1))))),.mk (some (160,true)) (.mov 165 (.t 164)),.mk (some (165,false)) (.mov 166 (.t 0)),.mk (some (165,false)) (.faddr 167 0 (.t 20)),.mk (some (165,false)) (.load 168 1 false (.t 167)),.mk (some (165,false)) (.mov 169 (.t 1)),.mk (some (165,false)) (.call (some 170) 11 [(.t 166),(.t 168),(.t 169)]),.mk (some (165,false)) (.un 171 .not (.t 170)),.mk (some (160,true)) (.pick 172 (.t 165) (.v (.k (.c (.bool true)))) (.t 171)),.mk (some (156,false)) (.pick 173 (.t 160) (.t 172) (.v (.k (.c (.bool false))))),.mk none (.pick 174 (.t 156) (.v (.k (.c (.bool true)))) (.t 173))]
def f4b28:AQ:=(.seq (.region f4r27) f4b26)
def f4b29:AQ:=(.seq f4b28 f4b23)
def f4r30:LA:=[.mk none (.mov 126 (.t 23)),.mk none (.bin 127 .add (.t 126) (.v (.k (.c (.int .i64 1))))),.mk none (.mov 23 (.t 127))]
def f4r31:LA:=[.mk none (.mov 128 (.t 22)),.mk none (.mov 129 (.t 0)),.mk none (.faddr 130 0 (.t 20)),.mk none (.load 131 1 false (.t 130)),.mk none (.mov 132 (.t 23)),.mk none (.iaddr 133 1 (.t 131) (.t 132)),.mk none (.load 134 1 false (.t 133)),.mk none (.iaddr 135 8 (.t 129) (.t 134)),.mk none (.load 136 8 true (.t 135)),.mk none (.mov 137 (.t 14)),.mk none (.call (some 138) 16 [(.t 136),(.t 137)]),.mk none (.len 139 (.t 138)),.mk none (.bin 140 .add (.t 128) (.t 139)),.mk none (.mov 22 (.t 140))]
def f4b32:AQ:=(.block 5 (.region f4r31))
def f4b33:AQ:=(.seq f4b32 (.region f4r30))
def f4b34:AQ:=(.cond (.t 125) .skip (.exit 4))
def f4r35:LA:=[.mk none (.mov 121 (.t 23)),.mk none (.faddr 122 0 (.t 20)),.mk none (.load 123 1 false (.t 122)),.mk none (.len 124 (.t 123)),.mk none (.bin 125 .lss (.t 121) (.t 124))]
def f4b36:AQ:=(.seq (.region f4r35) f4b34)
def f4b37:AQ:=(.seq f4b36 f4b33)
def f4l38:AQ:=.loop [0,1,7,8,10,12,14,15,16,17,18,19,20,22,23] [20,35,77,82,36000,36001,36002,78000,78001,78002,83000,83001,83002] f4b37
def f4b39:AQ:=(.block 4 f4l38)
def f4r40:LA:=[.mk none (.mov 23 (.v (.k (.c (.int .i64 0)))))]
def f4b41:AQ:=(.seq (.region f4r40) f4b39)
def f4b42:AQ:=(.seq f4b41 f4b29)
def f4r43:LA:=[.mk none (.mov 22 (.v (.k (.c (.int .i64 0)))))]
def f4b44:AQ:=(.seq (.region f4r43) f4b42)
def f4r45:LA:=[.mk none (.mov 102 (.t 21)),.mk none (.bin 103 .add (.t 102) (.v (.k (.c (.int .i64 1))))),.mk none (.mov 21 (.t 103))]
def f4r46:LA:=[.mk none (.mov 119 (.t 17)),.mk none (.bin 120 .add (.t 119) (.v (.k (.c (.int .i64 1))))),.mk none (.mov 17 (.t 120))]
def f4b47:AQ:=(.cond (.t 118) (.region f4r46) .skip)
def f4r48:LA:=[.mk none (.faddr 104 0 (.t 20)),.mk none (.load 105 1 false (.t 104)),.mk none (.len 106 (.t 105)),.mk none (.bin 107 .eql (.t 106) (.v (.k (.c (.int .i64 1))))),.mk none (.mov 108 (.t 107)),.mk (some (108,true)) (.faddr 109 0 (.t 20)),.mk (some (108,true)) (.load 110 1 false (.t 109)),.mk (some (108,true)) (.iaddr 111 1 (.t 110) (.v (.k (.c (.int .i64 0))))),.mk (some (108,true)) (.load 112 1 false (.t 111)),.mk (some (108,true)) (.mov 113 (.t 16)),.mk (some (108,true)) (.mov 114 (.t 21)),.mk (some (108,true)) (.iaddr 115 1 (.t 113) (.t 114)),.mk (some (108,true)) (.load 116 1 false (.t 115)),.mk (some (108,true)) (.bin 117 .eql (.t 112) (.t 116)),.mk none (.pick 118 (.t 108) (.t 117) (.v (.k (.c (.bool false)))))]
def f4b49:AQ:=(.seq (.draw f4r48 [[],[0],[1],[2],[3],[4],[5,4],[6,4],[7,4],[4],[4],[9,10,4],[11,4],[8,12,4],[4,13]]) f4b47)
def f4b50:AQ:=(.block 3 f4b49)
def f4b51:AQ:=(.seq f4b50 (.region f4r45))
def f4b52:AQ:=(.cond (.t 101) .skip (.exit 2))
def f4r53:LA:=[.mk none (.mov 98 (.t 21)),.mk none (.mov 99 (.t 16)),.mk none (.len 100 (.t 99)),.mk none (.bin 101 .lss (.t 98) (.t 100))]
def f4b54:AQ:=(.seq (.region f4r53) f4b52)
def f4b55:AQ:=(.seq f4b54 f4b51)
def f4l56:AQ:=.loop [0,1,7,8,10,12,14,15,16,17,18,19,20,21] [20,35,77,82,36000,36001,36002,78000,78001,78002,83000,83001,83002] f4b55
def f4b57:AQ:=(.block 2 f4l56)
def f4r58:LA:=[.mk none (.mov 21 (.v (.k (.c (.int .i64 0)))))]
def f4b59:AQ:=(.seq (.region f4r58) f4b57)
def f4b60:AQ:=(.seq f4b59 f4b44)
def f4r61:LA:=[.mk none (.mov 93 (.t 18)),.mk none (.mov 94 (.t 93)),.mk (some (94,false)) (.faddr 95 2 (.t 20)),.mk (some (94,false)) (.load 96 1 false (.t 95)),.mk none (.pick 97 (.t 94) (.v (.k (.c (.bool true)))) (.t 96)),.mk none (.mov 18 (.t 97))]
def f4b62:AQ:=(.seq (.region f4r61) f4b60)
def f4r63:LA:=[.mk none (.mov 89 (.t 8)),.mk none (.mov 90 (.t 19)),.mk none (.iaddr 91 3 (.t 89) (.t 90)),.mk none (.load 92 3 true (.t 91)),.mk none (.alloc 20 33 [(.list 0 (some true) []),(.list 0 (some true) []),(.bool false)]),.mk none (.store 3 (.t 20) (.t 92))]
def f4b64:AQ:=(.seq (.region f4r63) (.frz 20 f4b62))
def f4b65:AQ:=(.block 1 f4b64)
def f4b66:AQ:=(.seq f4b65 (.region f4r3))
def f4b67:AQ:=(.cond (.t 86) .skip (.exit 0))
def f4r68:LA:=[.mk none (.mov 83 (.t 19)),.mk none (.mov 84 (.t 8)),.mk none (.len 85 (.t 84)),.mk none (.bin 86 .lss (.t 83) (.t 85))]
def f4b69:AQ:=(.seq (.region f4r68) f4b67)
def f4b70:AQ:=(.seq f4b69 f4b66)
def f4l71:AQ:=.loop [0,1,7,8,10,12,14,15,16,17,18,19] [35,77,82,36000,36001,36002,78000,78001,78002,83000,83001,83002] f4b70
def f4b72:AQ:=(.block 0 f4l71)
def f4r73:LA:=[.mk none (.mov 19 (.v (.k (.c (.int .i64 0)))))]
def f4b74:AQ:=(.seq (.region f4r73) f4b72)
def f4b75:AQ:=(.seq f4b74 f4b2)
def f4r76:LA:=[.mk none (.mov 18 (.v (.k (.c (.bool false)))))]
def f4b77:AQ:=(.seq (.region f4r76) f4b75)
def f4r78:LA:=[.mk none (.mov 17 (.v (.k (.c (.int .i64 0)))))]
def f4b79:AQ:=(.seq (.region f4r78) f4b77)
def f4r80:LA:=[.mk none (.mov 80 (.t 0)),.mk none (.mov 81 (.t 14)),.mk none (.call (some 82) 15 [(.t 80),(.t 81)]),.mk none (.mov 16 (.t 82))]
def f4b81:AQ:=(.seq (.region f4r80) f4b79)
def f4r82:LA:=[.mk none (.mov 72 (.t 1)),.mk none (.mov 73 (.t 2)),.mk none (.conv 74 .i64 (.t 73)),.mk none (.mov 75 (.t 12)),.mk none (.bin 76 .rem (.t 74) (.t 75)),.mk none (.call (some 77) 14 [(.t 72),(.t 76)]),.mk none (.mov 71 (.t 77)),.mk none (.extr 78 (.t 71) 0),.mk none (.extr 79 (.t 71) 1),.mk none (.mov 14 (.t 78)),.mk none (.mov 15 (.t 79))]
def f4b83:AQ:=(.seq (.region f4r82) f4b81)
def f4r84:LA:=[.mk none (.mov 6 (.v (.k (.c (.bool false)))))]
def f4b85:AQ:=(.seq (.region f4r84) .ret)
def f4b86:AQ:=(.cond (.t 70) f4b85 .skip)
def f4r87:LA:=[.mk none (.mov 61 (.t 11)),.mk none (.bin 62 .neq (.t 61) (.v (.k (.c (.int .i64 0))))),.mk none (.mov 63 (.t 62)),.mk (some (63,false)) (.mov 64 (.t 13)),.mk (some (63,false)) (.bin 65 .neq (.t 64) (.v (.k (.c (.int .i64 0))))),.mk none (.pick 66 (.t 63) (.v (.k (.c (.bool true)))) (.t 65)),.mk none (.mov 67 (.t 66)),.mk (some (67,false)) (.mov 68 (.t 12)),.mk (some (67,false)) (.bin 69 .lss (.t 68) (.v (.k (.c (.int .i64 1))))),.mk none (.pick 70 (.t 67) (.v (.k (.c (.bool true)))) (.t 69))]
def f4b88:AQ:=(.seq (.region f4r87) f4b86)
def f4b89:AQ:=(.seq f4b88 f4b83)
def f4r90:LA:=[.mk none (.mov 51 (.t 7)),.mk none (.mov 52 (.t 51)),.mk (some (52,true)) (.mov 53 (.t 11)),.mk (some (52,true)) (.mov 54 (.t 9)),.mk (some (52,true)) (.bin 55 .eql (.t 53) (.t 54)),.mk none (.pick 56 (.t 52) (.t 55) (.v (.k (.c (.bool false))))),.mk none (.mov 57 (.t 56)),.mk (some (57,true)) (.mov 58 (.t 10)),.mk (some (57,true)) (.bin 59 .eql (.t 58) (.v (.k (.c (.int .i64 0))))),.mk none (.pick 60 (.t 57) (.t 59) (.v (.k (.c (.bool false))))),.mk none (.mov 6 (.t 60))]
def f4b91:AQ:=(.seq (.region f4r90) .ret)
def f4b92:AQ:=(.cond (.t 50) f4b91 .skip)
def f4r93:LA:=[.mk none (.mov 49 (.t 9)),.mk none (.bin 50 .neq (.t 49) (.v (.k (.c (.int .i64 0)))))]
def f4b94:AQ:=(.seq (.region f4r93) f4b92)
def f4b95:AQ:=(.seq f4b94 f4b89)
def f4r96:LA:=[.mk none (.mov 45 (.t 1)),.mk none (.call (some 46) 13 [(.t 45)]),.mk none (.mov 44 (.t 46)),.mk none (.extr 47 (.t 44) 0),.mk none (.extr 48 (.t 44) 1),.mk none (.mov 12 (.t 47)),.mk none (.mov 13 (.t 48))]
def f4b97:AQ:=(.seq (.region f4r96) f4b95)
def f4r98:LA:=[.mk none (.mov 39 (.t 0)),.mk none (.mov 40 (.t 1)),.mk none (.call (some 41) 12 [(.t 39),(.t 40)]),.mk none (.mov 38 (.t 41)),.mk none (.extr 42 (.t 38) 0),.mk none (.extr 43 (.t 38) 1),.mk none (.mov 10 (.t 42)),.mk none (.mov 11 (.t 43))]
def f4b99:AQ:=(.seq (.region f4r98) f4b97)
def f4r100:LA:=[.mk none (.mov 33 (.t 0)),.mk none (.mov 34 (.t 1)),.mk none (.call (some 35) 10 [(.t 33),(.t 34)]),.mk none (.mov 32 (.t 35)),.mk none (.extr 36 (.t 32) 0),.mk none (.extr 37 (.t 32) 1),.mk none (.mov 8 (.t 36)),.mk none (.mov 9 (.t 37))]
def f4b101:AQ:=(.seq (.region f4r100) f4b99)
def f4r102:LA:=[.mk none (.mov 31 (.t 7)),.mk none (.mov 6 (.t 31))]
def f4b103:AQ:=(.seq (.region f4r102) .ret)
def f4b104:AQ:=(.cond (.t 30) f4b103 .skip)
def f4r105:LA:=[.mk none (.mov 27 (.t 0)),.mk none (.mov 28 (.t 1)),.mk none (.call (some 29) 9 [(.t 27),(.t 28)]),.mk none (.un 30 .not (.t 29))]
def f4b106:AQ:=(.seq (.region f4r105) f4b104)
def f4b107:AQ:=(.seq f4b106 f4b101)
def f4r108:LA:=[.mk none (.call (some 26) 8 []),.mk none (.mov 7 (.t 26))]
def f4b109:AQ:=(.seq (.region f4r108) f4b107)
def f4r110:LA:=[.mk none (.mov 6 (.v (.k (.c (.bool false)))))]
def f4b111:AQ:=(.seq (.region f4r110) f4b109)
def f4:AQ:=f4b111
theorem hf4:zI Tryz.prog 4=some ⟨218,f4.erase,[(RX.t 6)]⟩:=by kernel_rfl
theorem okf4:f4.ok=true:=by kernel_rfl
def f8r1:LA:=[.mk none (.mov 162 (.t 20)),.mk none (.mov 163 (.t 162)),.mk (some (163,true)) (.mov 164 (.t 14)),.mk (some (163,true)) (.bin 165 .eql (.t 164) (.v (.k (.c (.int .i64 0))))),.mk none (.pick 166 (.t 163) (.t 165) (.v (.k (.c (.bool false))))),.mk none (.mov 167 (.t 166)),.mk (some (167,true)) (.mov 168 (.t 8)),.mk (some (167,true)) (.bslice 169 3 1 [(.int .i64 0)] 1 [(0,(.v (.k (.c (.int .i64 3)))))])]
def f8r2:LA:=[.mk (some (167,true)) (.build 170 [(.list 0 (some true) []),(.list 0 (some true) []),(.bool false)] [(0,(1,(.t 169))),(2,(1,(.v (.k (.c (.bool true))))))]),.mk (some (167,true)) (.bslice 171 3 1 [(.int .i64 0)] 2 [(0,(.v (.k (.c (.int .i64 0))))),(1,(.v (.k (.c (.int .i64 1)))))])]
def f8r3:LA:=[.mk (some (167,true)) (.mov 172 (.t 3)),.mk (some (167,true)) (.build 173 [(.list 0 (some true) []),(.list 0 (some true) []),(.bool false)] [(0,(1,(.t 171))),(1,(1,(.t 172))),(2,(1,(.v (.k (.c (.bool true))))))]),.mk (some (167,true)) (.bslice 174 3 1 [(.int .i64 0)] 1 [(0,(.v (.k (.c (.int .i64 0)))))])]
def f8r4:LA:=[.mk (some (167,true)) (.mov 175 (.t 3)),.mk (some (167,true)) (.build 176 [(.list 0 (some true) []),(.list 0 (some true) []),(.bool false)] [(0,(1,(.t 174))),(1,(1,(.t 175)))]),.mk (some (167,true)) (.bslice 177 3 1 [(.int .i64 0)] 1 [(0,(.v (.k (.c (.int .i64 1)))))])]
def f8r5:LA:=[.mk (some (167,true)) (.mov 178 (.t 3)),.mk (some (167,true)) (.build 179 [(.list 0 (some true) []),(.list 0 (some true) []),(.bool false)] [(0,(1,(.t 177))),(1,(1,(.t 178)))]),.mk (some (167,true)) (.bslice 180 33 3 [(.list 0 (some true) []),(.list 0 (some true) []),(.bool false)] 4 [(0,(.t 170)),(1,(.t 173)),(2,(.t 176)),(3,(.t 179))])]
def f8r6:LA:=[.mk (some (167,true)) (.call (some 181) 25 [(.t 168),(.t 180)]),.mk none (.pick 182 (.t 167) (.t 181) (.v (.k (.c (.bool false))))),.mk none (.mov 0 (.t 182))]
def f8b7:AQ:=(.seq (.regs [(f8r1,[169]),(f8r2,[171]),(f8r3,[174]),(f8r4,[177]),(f8r5,[180]),(f8r6,[])]) .ret)
def f8r8:LA:=[.mk none (.mov 134 (.t 4)),.mk none (.len 135 (.t 134)),.mk none (.bin 136 .eql (.t 135) (.v (.k (.c (.int .i64 0))))),.mk none (.mov 137 (.t 136)),.mk (some (137,true)) (.mov 138 (.t 10)),.mk (some (137,true)) (.bin 139 .eql (.t 138) (.v (.k (.c (.int .i64 1))))),.mk none (.pick 140 (.t 137) (.t 139) (.v (.k (.c (.bool false))))),.mk none (.mov 141 (.t 140)),.mk (some (141,true)) (.mov 142 (.t 6)),.mk (some (141,true)) (.bslice 143 3 1 [(.int .i64 0)] 1 [(0,(.v (.k (.c (.int .i64 0)))))])]
def f8r9:LA:=[.mk (some (141,true)) (.mov 144 (.t 3)),.mk (some (141,true)) (.build 145 [(.list 0 (some true) []),(.list 0 (some true) []),(.bool false)] [(0,(1,(.t 143))),(1,(1,(.t 144)))]),.mk (some (141,true)) (.bslice 146 33 3 [(.list 0 (some true) []),(.list 0 (some true) []),(.bool false)] 1 [(0,(.t 145))])]
def f8r10:LA:=[.mk (some (141,true)) (.call (some 147) 25 [(.t 142),(.t 146)]),.mk none (.pick 148 (.t 141) (.t 147) (.v (.k (.c (.bool false))))),.mk none (.mov 149 (.t 148)),.mk (some (149,true)) (.mov 150 (.t 12)),.mk (some (149,true)) (.bin 151 .eql (.t 150) (.v (.k (.c (.int .i64 2))))),.mk none (.pick 152 (.t 149) (.t 151) (.v (.k (.c (.bool false))))),.mk none (.mov 153 (.t 152)),.mk (some (153,true)) (.mov 154 (.t 18)),.mk (some (153,true)) (.iaddr 155 3 (.t 154) (.v (.k (.c (.int .i64 0))))),.mk (some (153,true)) (.faddr 156 2 (.t 155)),.mk (some (153,true)) (.load 157 1 false (.t 156)),.mk (some (153,true)) (.iaddr 158 1 (.t 157) (.v (.k (.c (.int .i64 0))))),.mk (some (153,true)) (.load 159 1 false (.t 158)),.mk (some (153,true)) (.bin 160 .eql (.t 159) (.v (.k (.c (.str [55,48,48]))))),.mk none (.pick 161 (.t 153) (.t 160) (.v (.k (.c (.bool false))))),.mk none (.mov 20 (.t 161))]
def f8b11:AQ:=(.seq (.regs [(f8r8,[143]),(f8r9,[146]),(f8r10,[])]) f8b7)
def f8r12:LA:=[.mk none (.mov 0 (.v (.k (.c (.bool false)))))]
def f8b13:AQ:=(.seq (.region f8r12) .ret)
def f8b14:AQ:=(.cond (.t 133) f8b13 .skip)
def f8r15:LA:=[.mk none (.mov 87 (.t 5)),.mk none (.bin 88 .neq (.t 87) (.v (.k (.c (.int .i64 0))))),.mk none (.mov 89 (.t 88)),.mk (some (89,false)) (.mov 90 (.t 7)),.mk (some (89,false)) (.bin 91 .neq (.t 90) (.v (.k (.c (.int .i64 0))))),.mk none (.pick 92 (.t 89) (.v (.k (.c (.bool true)))) (.t 91)),.mk none (.mov 93 (.t 92)),.mk (some (93,false)) (.mov 94 (.t 9)),.mk (some (93,false)) (.bin 95 .neq (.t 94) (.v (.k (.c (.int .i64 0))))),.mk none (.pick 96 (.t 93) (.v (.k (.c (.bool true)))) (.t 95)),.mk none (.mov 97 (.t 96)),.mk (some (97,false)) (.mov 98 (.t 11)),.mk (some (97,false)) (.bin 99 .neq (.t 98) (.v (.k (.c (.int .i64 0))))),.mk none (.pick 100 (.t 97) (.v (.k (.c (.bool true)))) (.t 99)),.mk none (.mov 101 (.t 100)),.mk (some (101,false)) (.mov 102 (.t 13)),.mk (some (101,false)) (.bin 103 .neq (.t 102) (.v (.k (.c (.int .i64 0))))),.mk none (.pick 104 (.t 101) (.v (.k (.c (.bool true)))) (.t 103)),.mk none (.mov 105 (.t 104)),.mk (some (105,false)) (.mov 106 (.t 15)),.mk (some (105,false)) (.bin 107 .neq (.t 106) (.v (.k (.c (.int .i64 0))))),.mk none (.pick 108 (.t 105) (.v (.k (.c (.bool true)))) (.t 107)),.mk none (.mov 109 (.t 108)),.mk (some (109,false)) (.mov 110 (.t 17)),.mk (some (109,false)) (.bin 111 .neq (.t 110) (.v (.k (.c (.int .i64 0))))),.mk none (.pick 112 (.t 109) (.v (.k (.c (.bool true)))) (.t 111)),.mk none (.mov 113 (.t 112)),.mk (some (113,false)) (.mov 114 (.t 19)),.mk (some (113,false)) (.bin 115 .neq (.t 114) (.v (.k (.c (.int .i64 0))))),.mk none (.pick 116 (.t 113) (.v (.k (.c (.bool true)))) (.t 115)),.mk none (.mov 117 (.t 116)),.mk (some (117,false)) (.mov 118 (.t 16)),.mk (some (117,false)) (.bin 119 .neq (.t 118) (.v (.k (.c (.int .i64 2))))),.mk none (.pick 120 (.t 117) (.v (.k (.c (.bool true)))) (.t 119)),.mk none (.mov 121 (.t 120)),.mk (some (121,false)) (.mov 122 (.t 18)),.mk (some (121,false)) (.len 123 (.t 122)),.mk (some (121,false)) (.bin 124 .neq (.t 123) (.v (.k (.c (.int .i64 1))))),.mk none (.pick 125 (.t 121) (.v (.k (.c (.bool true)))) (.t 124)),.mk none (.mov 126 (.t 125)),.mk (some (126,false)) (.mov 127 (.t 18)),.mk (some (126,false)) (.iaddr 128 3 (.t 127) (.v (.k (.c (.int .i64 0))))),.mk (some (126,false)) (.faddr 129 2 (.t 128)),.mk (some (126,false)) (.load 130 1 false (.t 129)),.mk (some (126,false)) (.len 131 (.t 130)),.mk (some (126,false)) (.bin 132 .neq (.t 131) (.v (.k (.c (.int .i64 2))))),.mk none (.pick 133 (.t 126) (.v (.k (.c (.bool true)))) (.t 132))]
def f8b16:AQ:=(.seq (.region f8r15) f8b14)
def f8b17:AQ:=(.seq f8b16 f8b11)
def f8r18:LA:=[.mk none (.mov 83 (.t 2)),.mk none (.call (some 84) 14 [(.t 83),(.v (.k (.c (.int .i64 1))))]),.mk none (.mov 82 (.t 84)),.mk none (.extr 85 (.t 82) 0),.mk none (.extr 86 (.t 82) 1),.mk none (.mov 18 (.t 85)),.mk none (.mov 19 (.t 86))]
def f8b19:AQ:=(.seq (.region f8r18) f8b17)
def f8r20:LA:=[.mk none (.mov 78 (.t 2)),.mk none (.call (some 79) 13 [(.t 78)]),.mk none (.mov 77 (.t 79)),.mk none (.extr 80 (.t 77) 0),.mk none (.extr 81 (.t 77) 1),.mk none (.mov 16 (.t 80)),.mk none (.mov 17 (.t 81))]
def f8b21:AQ:=(.seq (.region f8r20) f8b19)
def f8r22:LA:=[.mk none (.mov 72 (.t 1)),.mk none (.mov 73 (.t 2)),.mk none (.call (some 74) 12 [(.t 72),(.t 73)]),.mk none (.mov 71 (.t 74)),.mk none (.extr 75 (.t 71) 0),.mk none (.extr 76 (.t 71) 1),.mk none (.mov 14 (.t 75)),.mk none (.mov 15 (.t 76))]
def f8b23:AQ:=(.seq (.region f8r22) f8b21)
def f8r24:LA:=[.mk none (.mov 60 (.t 1)),.mk none (.iaddr 61 8 (.t 60) (.v (.k (.c (.int .i64 0))))),.mk none (.load 62 8 true (.t 61)),.mk none (.mov 63 (.t 1)),.mk none (.iaddr 64 8 (.t 63) (.v (.k (.c (.int .i64 2))))),.mk none (.load 65 8 true (.t 64)),.mk none (.bslice 66 46 8 [(.int .i64 0),(.str []),(.str []),(.str []),(.str []),(.str []),(.int .i64 0),(.int .i64 0)] 2 [(0,(.t 62)),(1,(.t 65))]),.mk none (.mov 67 (.t 2)),.mk none (.call (some 68) 12 [(.t 66),(.t 67)]),.mk none (.mov 59 (.t 68)),.mk none (.extr 69 (.t 59) 0),.mk none (.extr 70 (.t 59) 1),.mk none (.mov 12 (.t 69)),.mk none (.mov 13 (.t 70))]
def f8b25:AQ:=(.seq (.draw f8r24 [[],[0],[1],[],[3],[4],[2,5],[],[6,7],[8],[9],[9],[10,8,0,1,2,3,4,5,6,7,8,9,10],[11,12,0,1,2,3,4,5,6,7,8,9,10,11,12]]) f8b23)
def f8r26:LA:=[.mk none (.mov 53 (.t 1)),.mk none (.slice 54 8 (.t 53) (some (.v (.k (.c (.int .i64 2))))) (some (.v (.k (.c (.int .i64 3)))))),.mk none (.mov 55 (.t 2)),.mk none (.call (some 56) 12 [(.t 54),(.t 55)]),.mk none (.mov 52 (.t 56)),.mk none (.extr 57 (.t 52) 0),.mk none (.extr 58 (.t 52) 1),.mk none (.mov 10 (.t 57)),.mk none (.mov 11 (.t 58))]
def f8b27:AQ:=(.seq (.region f8r26) f8b25)
def f8r28:LA:=[.mk none (.mov 47 (.t 1)),.mk none (.mov 48 (.t 2)),.mk none (.call (some 49) 10 [(.t 47),(.t 48)]),.mk none (.mov 46 (.t 49)),.mk none (.extr 50 (.t 46) 0),.mk none (.extr 51 (.t 46) 1),.mk none (.mov 8 (.t 50)),.mk none (.mov 9 (.t 51))]
def f8b29:AQ:=(.seq (.region f8r28) f8b27)
def f8r30:LA:=[.mk none (.mov 35 (.t 1)),.mk none (.iaddr 36 8 (.t 35) (.v (.k (.c (.int .i64 0))))),.mk none (.load 37 8 true (.t 36)),.mk none (.mov 38 (.t 1)),.mk none (.iaddr 39 8 (.t 38) (.v (.k (.c (.int .i64 2))))),.mk none (.load 40 8 true (.t 39)),.mk none (.bslice 41 46 8 [(.int .i64 0),(.str []),(.str []),(.str []),(.str []),(.str []),(.int .i64 0),(.int .i64 0)] 2 [(0,(.t 37)),(1,(.t 40))]),.mk none (.mov 42 (.t 2)),.mk none (.call (some 43) 10 [(.t 41),(.t 42)]),.mk none (.mov 34 (.t 43)),.mk none (.extr 44 (.t 34) 0),.mk none (.extr 45 (.t 34) 1),.mk none (.mov 6 (.t 44)),.mk none (.mov 7 (.t 45))]
def f8b31:AQ:=(.seq (.draw f8r30 [[],[0],[1],[],[3],[4],[2,5],[],[6,7],[8],[9],[9],[10,8,0,1,2,3,4,5,6,7,8,9,10],[11,12,0,1,2,3,4,5,6,7,8,9,10,11,12]]) f8b29)
def f8r32:LA:=[.mk none (.mov 28 (.t 1)),.mk none (.slice 29 8 (.t 28) (some (.v (.k (.c (.int .i64 2))))) (some (.v (.k (.c (.int .i64 3)))))),.mk none (.mov 30 (.t 2)),.mk none (.call (some 31) 10 [(.t 29),(.t 30)]),.mk none (.mov 27 (.t 31)),.mk none (.extr 32 (.t 27) 0),.mk none (.extr 33 (.t 27) 1),.mk none (.mov 4 (.t 32)),.mk none (.mov 5 (.t 33))]
def f8b33:AQ:=(.seq (.region f8r32) f8b31)
def f8r34:LA:=[.mk none (.build 25 [(.int .i64 0),(.int .i64 0)] [(0,(1,(.v (.k (.c (.int .i64 0)))))),(1,(1,(.v (.k (.c (.int .i64 0))))))]),.mk none (.bslice 26 64 2 [(.int .i64 0),(.int .i64 0)] 1 [(0,(.t 25))])]
def f8r35:LA:=[.mk none (.mov 3 (.t 26))]
def f8b36:AQ:=(.seq (.regf f8r34 [26] f8r35) f8b33)
def f8r37:LA:=[.mk none (.call (some 22) 29 []),.mk none (.mov 21 (.t 22)),.mk none (.extr 23 (.t 21) 0),.mk none (.extr 24 (.t 21) 1),.mk none (.mov 1 (.t 23)),.mk none (.mov 2 (.t 24))]
def f8b38:AQ:=(.seq (.region f8r37) f8b36)
def f8r39:LA:=[.mk none (.mov 0 (.v (.k (.c (.bool false)))))]
def f8b40:AQ:=(.seq (.region f8r39) f8b38)
def f8:AQ:=f8b40
theorem hf8:zI Tryz.prog 8=some ⟨183,f8.erase,[(RX.t 0)]⟩:=by kernel_rfl
theorem okf8:f8.ok=true:=by kernel_rfl
def f65r1:LA:=[.mk none (.mov 6 (.t 0)),.mk none (.call (some 7) 104 [(.t 6)]),.mk none (.mov 2 (.t 7))]
def f65b2:AQ:=(.seq (.region f65r1) .ret)
def f65r3:LA:=[.mk none (.mov 3 (.t 0)),.mk none (.conv 4 .u32 (.t 3)),.mk none (.call (some 5) 103 [(.t 4)]),.mk none (.mov 2 (.t 5))]
def f65b4:AQ:=(.seq (.region f65r3) .ret)
def f65b5:AQ:=(.cond (.v (.k (.c (.bool false)))) f65b4 .skip)
def f65b6:AQ:=(.seq f65b5 f65b2)
def f65r7:LA:=[.mk none (.mov 2 (.v (.k (.c (.int .i64 0)))))]
def f65b8:AQ:=(.seq (.region f65r7) f65b6)
def f65:AQ:=f65b8
theorem hf65:zI Tryz.prog 65=some ⟨8,f65.erase,[(RX.t 2)]⟩:=by kernel_rfl
theorem okf65:f65.ok=true:=by kernel_rfl
def f75r1:LA:=[.mk none (.mov 6 (.t 0)),.mk none (.call (some 7) 111 [(.t 6)]),.mk none (.mov 2 (.t 7))]
def f75b2:AQ:=(.seq (.region f75r1) .ret)
def f75r3:LA:=[.mk none (.mov 3 (.t 0)),.mk none (.conv 4 .u32 (.t 3)),.mk none (.call (some 5) 110 [(.t 4)]),.mk none (.mov 2 (.t 5))]
def f75b4:AQ:=(.seq (.region f75r3) .ret)
def f75b5:AQ:=(.cond (.v (.k (.c (.bool false)))) f75b4 .skip)
def f75b6:AQ:=(.seq f75b5 f75b2)
def f75r7:LA:=[.mk none (.mov 2 (.v (.k (.c (.int .i64 0)))))]
def f75b8:AQ:=(.seq (.region f75r7) f75b6)
def f75:AQ:=f75b8
theorem hf75:zI Tryz.prog 75=some ⟨8,f75.erase,[(RX.t 2)]⟩:=by kernel_rfl
theorem okf75:f75.ok=true:=by kernel_rfl
def f104r1:LA:=[.mk none (.mov 32 (.t 0)),.mk none (.conv 33 .i64 (.t 32)),.mk none (.bin 34 .and (.t 33) (.v (.k (.c (.int .i64 127))))),.mk none (.mov 2 (.t 34))]
def f104b2:AQ:=(.seq (.region f104r1) .ret)
def f104r3:LA:=[.mk none (.mov 28 (.t 0)),.mk none (.mov 29 (.t 0)),.mk none (.bin 30 .shr (.t 29) (.v (.k (.c (.int .u64 32))))),.mk none (.bin 31 .add (.t 28) (.t 30)),.mk none (.mov 0 (.t 31))]
def f104b4:AQ:=(.seq (.region f104r3) f104b2)
def f104r5:LA:=[.mk none (.mov 24 (.t 0)),.mk none (.mov 25 (.t 0)),.mk none (.bin 26 .shr (.t 25) (.v (.k (.c (.int .u64 16))))),.mk none (.bin 27 .add (.t 24) (.t 26)),.mk none (.mov 0 (.t 27))]
def f104b6:AQ:=(.seq (.region f104r5) f104b4)
def f104r7:LA:=[.mk none (.mov 20 (.t 0)),.mk none (.mov 21 (.t 0)),.mk none (.bin 22 .shr (.t 21) (.v (.k (.c (.int .u64 8))))),.mk none (.bin 23 .add (.t 20) (.t 22)),.mk none (.mov 0 (.t 23))]
def f104b8:AQ:=(.seq (.region f104r7) f104b6)
def f104r9:LA:=[.mk none (.mov 15 (.t 0)),.mk none (.bin 16 .shr (.t 15) (.v (.k (.c (.int .u64 4))))),.mk none (.mov 17 (.t 0)),.mk none (.bin 18 .add (.t 16) (.t 17)),.mk none (.bin 19 .and (.t 18) (.v (.k (.c (.int .u64 1085102592571150095))))),.mk none (.mov 0 (.t 19))]
def f104b10:AQ:=(.seq (.region f104r9) f104b8)
def f104r11:LA:=[.mk none (.mov 9 (.t 0)),.mk none (.bin 10 .shr (.t 9) (.v (.k (.c (.int .u64 2))))),.mk none (.bin 11 .and (.t 10) (.v (.k (.c (.int .u64 3689348814741910323))))),.mk none (.mov 12 (.t 0)),.mk none (.bin 13 .and (.t 12) (.v (.k (.c (.int .u64 3689348814741910323))))),.mk none (.bin 14 .add (.t 11) (.t 13)),.mk none (.mov 0 (.t 14))]
def f104b12:AQ:=(.seq (.region f104r11) f104b10)
def f104r13:LA:=[.mk none (.mov 3 (.t 0)),.mk none (.bin 4 .shr (.t 3) (.v (.k (.c (.int .u64 1))))),.mk none (.bin 5 .and (.t 4) (.v (.k (.c (.int .u64 6148914691236517205))))),.mk none (.mov 6 (.t 0)),.mk none (.bin 7 .and (.t 6) (.v (.k (.c (.int .u64 6148914691236517205))))),.mk none (.bin 8 .add (.t 5) (.t 7)),.mk none (.mov 0 (.t 8))]
def f104b14:AQ:=(.seq (.region f104r13) f104b12)
def f104r15:LA:=[.mk none (.mov 2 (.v (.k (.c (.int .i64 0)))))]
def f104b16:AQ:=(.seq (.region f104r15) f104b14)
def f104:AQ:=f104b16
theorem hf104:zI Tryz.prog 104=some ⟨35,f104.erase,[(RX.t 2)]⟩:=by kernel_rfl
theorem okf104:f104.ok=true:=by kernel_rfl
end Go.Abs
namespace Go.Abs
theorem wrap_in {n:Int} (h1: -9223372036854775808≤n) (h2:n≤9223372036854775807):IntKind.i64.wrap n=n:=IntWalk.i64_in n ⟨h1,h2⟩
def zC (sz:Nat) (rows:List (List C)):C:=.list (if rows.isEmpty then 0 else sz) none rows
abbrev lst (sz:Nat) (rows:List (List C)):V:=.k (.c (zC sz rows))
def zK (l:List Int):List (List C):=l.map fun n=>[.int .i64 n]
theorem zJ {α:Type} (f:α→List C) (l:List α):(l.map f).length=l.length:=by simp
theorem zH {α:Type} {f:α→List C} (hf: ∀x,C.normRow (f x)=f x) (l:List α):C.normRows (l.map f)=l.map f:=by
 induction l with
 |nil=>rfl
 |cons a l ih=>simp[C.normRows,hf,ih]
theorem yI {α:Type} {f:α→List C} (hf: ∀x,C.normRow (f x)=f x) (sz:Nat) (l:List α):(zC sz (l.map f)).norm=zC sz (l.map f):=by
 unfold zC
 simp only[C.norm,zH hf]
 cases l<;>simp
inductive Term where
 |mk (op n:Int) (args:List Term)
 deriving Inhabited
def Term.op:Term→Int| .mk o _ _=>o
def Term.n:Term→Int| .mk _ n _=>n
def Term.args:Term→List Term| .mk _ _ a=>a
mutual
def sU:Term→List C
 | .mk o n a=>[.int .i64 o,.int .i64 n,zC 3 (encTs a)]
def encTs:List Term→List (List C)
 |[]=>[]
 |t::l=>sU t::encTs l
end
theorem zhi: ∀(l:List Term),encTs l=l.map sU
 |[]=>rfl
 |t::l=>by simp[encTs,zhi l]
theorem kF (t:Term):sU t=[.int .i64 t.op,.int .i64 t.n,zC 3 (t.args.map sU)]:=by
 cases t with
 |mk o n a=>simp[sU,Term.op,Term.n,Term.args,zhi]
mutual
theorem gA: ∀(t:Term),C.normRow (sU t)=sU t
 | .mk o n a=>by
   simp only[sU,C.normRow,C.norm,zC,encTs_norm a]
   cases a<;>simp[encTs]
theorem encTs_norm: ∀(l:List Term),C.normRows (encTs l)=encTs l
 |[]=>rfl
 |t::l=>by simp only[encTs,C.normRows,gA t,encTs_norm l]
end
structure Choice where
 ask:Int
 by_:Int
 whole:Bool
 deriving Inhabited
structure Rule where
 ask:Int
 term:Term
 deriving Inhabited
structure Order where
 name:List UInt8
 accepts:Bool
 choices:List Choice
 rules:List Rule
 deriving Inhabited
def rM (c:Choice):List C:=[.int .i64 c.ask,.int .i64 c.by_,.bool c.whole]
def sW (r:Rule):List C:=.int .i64 r.ask::sU r.term
def rN (o:Order):List C:=[.str o.name,.bool o.accepts,zC 3 (o.choices.map rM),zC 4 (o.rules.map sW)]
theorem bI (c:Choice):C.normRow (rM c)=rM c:=rfl
theorem bJ (r:Rule):C.normRow (sW r)=sW r:=by simp[sW,C.normRow,C.norm,gA]
theorem zhj (o:Order):C.normRow (rN o)=rN o:=by
 simp only[rN,C.normRow,C.norm,yI bI,yI bJ]
structure Cell where
 known:Bool
 n:Int
 deriving Inhabited
def qG (c:Cell):List C:=[.bool c.known,.int .i64 c.n]
theorem zhk (c:Cell):C.normRow (qG c)=qG c:=rfl
def zhl (n:Int):List C:=[.int .i64 n]
@[simp] theorem zpi (k:IntKind) (n:Int):C.normRow [.int k n]=[.int k n]:=rfl
@[simp] theorem zpj (n:Int):C.normRow (zhl n)=zhl n:=rfl
attribute [simp] gA bI bJ zhj zhk C.normRow
@[simp] theorem zpk (k:IntKind) (n:Int):(C.int k n).norm=.int k n:=rfl
@[simp] theorem zpl (b:Bool):(C.bool b).norm=.bool b:=rfl
@[simp] theorem zpm (s:List UInt8):(C.str s).norm=.str s:=rfl
@[simp] theorem zpn (row:List C) (off:Nat):(C.ro row off).norm=.ro (C.normRow row) off:=rfl
@[simp] theorem zpo (f:FuncId) (caps:List C):(C.fn f caps).norm=.fn f (C.normRow caps):=rfl
@[simp] theorem zpp (l:List Term):C.normRows (l.map sU)=l.map sU:=zH gA l
@[simp] theorem zpq (l:List Choice):C.normRows (l.map rM)=l.map rM:=zH bI l
@[simp] theorem zpr (l:List Rule):C.normRows (l.map sW)=l.map sW:=zH bJ l
@[simp] theorem zps (l:List Order):C.normRows (l.map rN)=l.map rN:=zH zhj l
@[simp] theorem zpt (l:List Cell):C.normRows (l.map qG)=l.map qG:=zH zhk l
@[simp] theorem wL (l:List Int):C.normRows (zK l)=zK l:=zH (fun _=>rfl) l
@[simp] theorem zpu:C.normRows []=[]:=rfl
@[simp] theorem gB (r:List C) (l:List (List C)):C.normRows (r::l)=C.normRow r::C.normRows l:=rfl
@[simp] theorem yB (l:List Int):(zK l).length=l.length:=by simp[zK]
theorem zlZ {l:List Int} {i:Nat} (h:i<l.length):(zK l).getD i []=[.int .i64 l[i]]:=by simp[zK,h]
@[simp] theorem zpv (l:List Int):(zK l).isEmpty=l.isEmpty:=by cases l<;>rfl
theorem bK (l:List Int) (n:Int):zK l++[[.int .i64 n]]=zK (l++[n]):=by simp[zK]
theorem zhm (o:Nat→Option O) (sz:Nat) (rows:List (List C)):vLen o (.k (.c (zC sz rows)))=some (True,.int .i64 rows.length):=rfl
theorem zhn (o:Nat→Option O) (sz:Nat) (rows:List (List C)) (k:IntKind) (n:Int):vIaddr o sz (.k (.c (zC sz rows))) (.k (.c (.int k n)))=some (0≤n∧n<rows.length,.k (.pel sz rows n.toNat 0)):=by
 simp only[zC,vIaddr,Option.some.injEq,Prod.mk.injEq]
 cases rows with
 |nil=>simp;omega
 |cons a l=>
  refine⟨?_,?_⟩
  ·simp
  ·simp
def bL (sz:Nat) (rows:List (List C)):Option Int→Option Int→Option (Prop×V)
 |some l,some h=>some (0≤l∧l≤h∧h≤rows.length,.list sz none ((rows.take h.toNat).drop l.toNat))
 |_,_=>none
theorem zho (sz:Nat) (lo hi:Option V) (rows:List (List C)):rF sz lo hi (.k (.c (zC sz rows)))=bL sz rows (vBound 0 lo) (vBound rows.length hi):=by
 simp only[zC,rF]
 generalize vBound 0 lo=a
 generalize vBound (↑rows.length) hi=b
 cases a<;>cases b<;>simp only[lA,bL]
 simp only[Option.some.injEq,Prod.mk.injEq,and_true]
 cases rows<;>simp
theorem zhp (sz:Nat) (rows:List (List C)) (l h:Int):bL sz rows (some l) (some h)=some (0≤l∧l≤h∧h≤rows.length,.list sz none ((rows.take h.toNat).drop l.toNat)):=id rfl
theorem zl0 (os:OS) (sz:Nat) (rows:List (List C)):srcV os sz (.k (.c (zC sz rows)))=some (True,rows):=by
 simp only[zC,srcV]
 cases rows<;>simp
@[simp] theorem zL (sz:Nat) (rows:List (List C)):(zC sz rows).norm=zC sz (C.normRows rows):=by
  unfold zC
  simp only[C.norm]
  cases rows<;>simp[C.normRows]
@[simp] theorem uD (sz:Nat) (nl:Option Bool) (rows:List (List C)):(C.list sz nl rows).norm=zC sz (C.normRows rows):=by
  unfold zC
  simp only[C.norm]
  cases rows<;>simp[C.normRows]
section
variable {P : Program} {f : FuncId} {vs : List V} {K : KK} {d : Nat} {ts : TS} {os : OS}
theorem zD {args:List V} {r:V} {X:Prop} (hs:Spec P f args (fun r'=>r'=r)) (hk:K (insT d r ts) os)
  (hp:vs.all (fun v=>(zB os v).isPure)=true:=by simp[zB,vQ,lookO,V.isPure])
  (ha:vs.map (fun v=>(zB os v).norm)=args:=by simp[zB,vQ,lookO,V.norm,kF,sW,rN,rM,qG,uD,lst]) (hr:r.scalar=true:=by rfl):pJ P f vs [] K (some d) ts os∨X:=by
 refine .inl ⟨hp,r,.inl ?_,?_⟩
 ·simpa [ha] using hs
 ·rw[if_pos hr];exact hk
theorem pN {cs:List C} {args:List V} {r:V} {X:Prop} (hs:Spec P f args (fun r'=>r'=r)) (hk:K (insT d r ts) os)
  (hp:vs.all (fun v=>(zB os v).isPure)=true:=by simp[zB,vQ,lookO,V.isPure])
  (ha:(vs.map (fun v=>(zB os v).norm)++cs.map fun c=> .k (.c c.norm))=args:=by simp[zB,vQ,lookO,V.norm,kF,sW,rN,rM,qG,uD,lst]) (hr:r.scalar=true:=by rfl):pJ P f vs cs K (some d) ts os∨X:=by
 refine .inl ⟨hp,r,.inl (by rw[ha];exact hs),?_⟩
 rw[if_pos hr];exact hk
theorem yS {args:List V} {r:V} {X:Prop} (hs:Spec P f args (fun r'=>r'=r)) (hk:retK r K ts os (some d))
  (hp:vs.all (fun v=>(zB os v).isPure)=true:=by simp[zB,vQ,lookO,V.isPure])
  (ha:vs.map (fun v=>(zB os v).norm)=args:=by simp[zB,vQ,lookO,V.norm,kF,sW,rN,rM,qG,uD,lst])
  (ht:vs.all (fun v=>v.toks.isEmpty)=true:=by simp[V.toks,K.toks]) (hr:r.scalar=false:=by rfl):pJ P f vs [] K (some d) ts os∨X:=by
 refine .inl ⟨hp,r,.inl (by simpa [ha] using hs),?_⟩
 rw[if_neg (by simp[hr])]
 exact⟨ht,hk⟩
theorem rO {args:List V} {r:V} (hs:Spec P f args (fun r'=>r'=r)) (hk:K (insT d r.fz ts) os)
  (hp:vs.all (fun v=>(zB os v).isPure)=true:=by simp[zB,vQ,lookO,V.isPure])
  (ha:vs.map (fun v=>(zB os v).norm)=args:=by simp[zB,vQ,lookO,V.norm,kF,sW,rN,rM,qG,uD,lst]) (hr:r.scalar=true:=by rfl):lM P f vs [] K d ts os:=
 ⟨hp,r,by simpa [ha] using hs,.inl hr,hk⟩
theorem zhq {args:List V} {r:V} (hs:Spec P f args (fun r'=>r'=r)) (hk:K (insT d r.fz ts) os)
  (hp:vs.all (fun v=>(zB os v).isPure)=true:=by simp[zB,vQ,lookO,V.isPure])
  (ha:vs.map (fun v=>(zB os v).norm)=args:=by simp[zB,vQ,lookO,V.norm,kF,sW,rN,rM,qG,uD,lst]) (hr:vs.all (fun v=>v.toks.isEmpty)=true:=by simp[V.toks,K.toks]):lM P f vs [] K d ts os:=
 ⟨hp,r,by simpa [ha] using hs,.inr hr,hk⟩
end
end Go.Abs
set_option maxRecDepth 100000
namespace Go.Abs
theorem Qs:((((((((type_of% @zdq∧type_of% @zcw)∧(type_of% @zcA∧type_of% @zcv))∧((type_of% @zdn∧type_of% @zbZ)∧(type_of% @zcS∧(type_of% @true_and∧type_of% @zb0))))∧(((type_of% @zdC∧type_of% @zdt)∧(type_of% @zdS∧type_of% @zdw))∧((type_of% @zdo∧type_of% @zdT)∧(type_of% @zdU∧(type_of% @zc1∧type_of% @zdV)))))∧((((type_of% @zdZ∧type_of% @zdx)∧(type_of% @zgL∧type_of% @zdI))∧((type_of% @and_self∧type_of% @zdp)∧(type_of% @Nat.zero_add∧(type_of% @zeY∧type_of% @zeZ))))∧(((type_of% @ze0∧type_of% @zgj)∧(type_of% @zgk∧(type_of% @zgM∧type_of% @zgN)))∧((type_of% @zdA∧type_of% @zft)∧(type_of% @zfu∧(type_of% @zfv∧type_of% @zfw))))))∧(((((type_of% @zfx∧type_of% @zfB)∧(type_of% @zfG∧type_of% @zfy))∧((type_of% @zfM∧type_of% @zfS)∧(type_of% @zf1∧(type_of% @zfP∧type_of% @zfU))))∧(((type_of% @zd6∧type_of% @zf0)∧(type_of% @zgx∧(type_of% @zds∧type_of% @Nat.le_refl)))∧((type_of% @zdy∧type_of% @Bool.false_eq_true)∧(type_of% @zgo∧(type_of% @zfz∧type_of% @zcZ)))))∧((((type_of% @zgm∧type_of% @zgw)∧(type_of% @zgF∧type_of% @zgl))∧((type_of% @zeE∧type_of% @zeF)∧(type_of% @zc9∧(type_of% @decide_true∧type_of% @zL))))∧(((type_of% @zes∧type_of% @zcU)∧(type_of% @zdb∧(type_of% @zhm∧type_of% @zel)))∧((type_of% @zeC∧type_of% @zcD)∧(type_of% @zgG∧(type_of% @zc5∧type_of% @zdQ)))))))∧((((((type_of% @zf2∧type_of% @zdR)∧(type_of% @zdr∧type_of% @decide_false))∧((type_of% @zcI∧type_of% @Bool.and_true)∧(type_of% @zgH∧(type_of% @Int.toNat_natCast∧type_of% @ze4))))∧(((type_of% @ze5∧type_of% @ze6)∧(type_of% @ze7∧type_of% @Bool.or_true))∧((type_of% @zev∧type_of% @zb1)∧(type_of% @Int.natCast_nonneg∧(type_of% @zf3∧type_of% @zgO)))))∧((((type_of% @zgn∧type_of% @Nat.add_zero)∧(type_of% @zf4∧type_of% @zdE))∧((type_of% @zer∧type_of% @zhn)∧(type_of% @zgJ∧(type_of% @zfY∧type_of% @zgI))))∧(((type_of% @ze2∧type_of% @ze3)∧(type_of% @zfa∧(type_of% @ze9∧type_of% @zfd)))∧((type_of% @not_false_eq_true∧type_of% @zdF)∧(type_of% @zd0∧(type_of% @zdz∧type_of% @zdD))))))∧(((((type_of% @zdG∧type_of% @zgR)∧(type_of% @zcC∧type_of% @zgV))∧((type_of% @zg0∧type_of% @zg1)∧(type_of% @zcH∧(type_of% @zc6∧type_of% @zgS))))∧(((type_of% @zgQ∧type_of% @zgY)∧(type_of% @zg9∧(type_of% @zcM∧type_of% @zen)))∧((type_of% @zgA∧type_of% @zee)∧(type_of% @zef∧(type_of% @zeg∧type_of% @zfC)))))∧((((type_of% @zc3∧type_of% @zfE)∧(type_of% @ze1∧type_of% @zdH))∧((type_of% @zd8∧type_of% @zd5)∧(type_of% @ze8∧(type_of% @zcR∧type_of% @zeh))))∧(((type_of% @zgy∧type_of% @zgz)∧(type_of% @Bool.false_or∧(type_of% @zfH∧type_of% @zfe)))∧((type_of% @zfi∧type_of% @zc8)∧(type_of% @yB∧(type_of% @zgp∧type_of% @zfA))))))))∧(((((((type_of% @zfN∧type_of% @zfQ)∧(type_of% @zfR∧type_of% @zfT))∧((type_of% @zfW∧type_of% @zfX)∧(type_of% @zcW∧(type_of% @zcK∧type_of% @zex))))∧(((type_of% @zeL∧type_of% @zew)∧(type_of% @zd4∧type_of% @Bool.true_and))∧((type_of% @zem∧type_of% @zeI)∧(type_of% @zfg∧(type_of% @zcB∧type_of% @zd9)))))∧((((type_of% @zdW∧type_of% @zgc)∧(type_of% @zgf∧type_of% @zgg))∧((type_of% @zgh∧type_of% @zgi)∧(type_of% @zcy∧(type_of% @zde∧type_of% @zcV))))∧(((type_of% @zc0∧type_of% @zeH)∧(type_of% @zeS∧(type_of% @zeT∧type_of% @zcT)))∧((type_of% @zfI∧type_of% @wL)∧(type_of% @zdg∧(type_of% @zeD∧type_of% @false_implies))))))∧(((((type_of% @zcE∧type_of% @zdc)∧(type_of% @zei∧type_of% @zcQ))∧((type_of% @zdk∧type_of% @zcN)∧(type_of% @zcx∧(type_of% @zgW∧type_of% @zfL))))∧(((type_of% @zdu∧type_of% @Int.toNat_zero)∧(type_of% @Nat.succ_ne_self∧(type_of% @zcP∧type_of% @zfD)))∧((type_of% @zfJ∧type_of% @zb2)∧(type_of% @zga∧(type_of% @zgb∧type_of% @zgd)))))∧((((type_of% @zge∧type_of% @zch)∧(type_of% @zeJ∧type_of% @zfO))∧((type_of% @zfV∧type_of% @zfK)∧(type_of% @zcO∧(type_of% @zfZ∧type_of% @zgZ))))∧(((type_of% @zd7∧type_of% @zgX)∧(type_of% @zeP∧(type_of% @zgs∧type_of% @zgu)))∧((type_of% @zek∧type_of% @zgK)∧(type_of% @zdh∧(type_of% @zeQ∧type_of% @zeR)))))))∧((((((type_of% @zgr∧type_of% @zgt)∧(type_of% @zgv∧type_of% @or_false))∧((type_of% @zdj∧type_of% @zgP)∧(type_of% @zcY∧(type_of% @zec∧type_of% @zf5))))∧(((type_of% @zgq∧type_of% @zgB)∧(type_of% @zc7∧type_of% @zej))∧((type_of% @zeb∧type_of% @zdf)∧(type_of% @zfb∧(type_of% @zfj∧type_of% @zfk)))))∧((((type_of% @zfl∧type_of% @zfo)∧(type_of% @zfp∧type_of% @zeW))∧((type_of% @zeX∧type_of% @zfq)∧(type_of% @zci∧(type_of% @zdl∧type_of% @zf7))))∧(((type_of% @zf8∧type_of% @zdd)∧(type_of% @zeN∧(type_of% @Bool.and_eq_true∧type_of% @zcg)))∧((type_of% @zeK∧type_of% @zeU)∧(type_of% @zeV∧(type_of% @zcX∧type_of% @zey))))))∧(((((type_of% @zez∧type_of% @zeA)∧(type_of% @zeG∧type_of% @zf9))∧((type_of% @zd2∧type_of% @zff)∧(type_of% @zfh∧(type_of% @zgC∧type_of% @zgD))))∧(((type_of% @zea∧type_of% @zcj)∧(type_of% @zeO∧(type_of% @and_true∧type_of% @zdm)))∧((type_of% @zda∧type_of% @Int.cast_ofNat_Int)∧(type_of% @zfm∧(type_of% @not_true_eq_false∧type_of% @zfF)))))∧((((type_of% @zeB∧type_of% @zfr)∧(type_of% @zfs∧type_of% @zho))∧((type_of% @zhp∧type_of% @zc4)∧(type_of% @zg2∧(type_of% @zg3∧type_of% @zg4))))∧(((type_of% @zg5∧type_of% @zg6)∧(type_of% @zg7∧(type_of% @zg8∧type_of% @Bool.true_or)))∧((type_of% @zdY∧type_of% @zgU)∧(type_of% @zfc∧(type_of% @zd1∧type_of% @zed))))))))):=⟨⟨⟨⟨⟨⟨⟨⟨@zdq,@zcw⟩,⟨@zcA,@zcv⟩⟩,⟨⟨@zdn,@zbZ⟩,⟨@zcS,⟨@true_and,@zb0⟩⟩⟩⟩,⟨⟨⟨@zdC,@zdt⟩,⟨@zdS,@zdw⟩⟩,⟨⟨@zdo,@zdT⟩,⟨@zdU,⟨@zc1,@zdV⟩⟩⟩⟩⟩,⟨⟨⟨⟨@zdZ,@zdx⟩,⟨@zgL,@zdI⟩⟩,⟨⟨@and_self,@zdp⟩,⟨@Nat.zero_add,⟨@zeY,@zeZ⟩⟩⟩⟩,⟨⟨⟨@ze0,@zgj⟩,⟨@zgk,⟨@zgM,@zgN⟩⟩⟩,⟨⟨@zdA,@zft⟩,⟨@zfu,⟨@zfv,@zfw⟩⟩⟩⟩⟩⟩,⟨⟨⟨⟨⟨@zfx,@zfB⟩,⟨@zfG,@zfy⟩⟩,⟨⟨@zfM,@zfS⟩,⟨@zf1,⟨@zfP,@zfU⟩⟩⟩⟩,⟨⟨⟨@zd6,@zf0⟩,⟨@zgx,⟨@zds,@Nat.le_refl⟩⟩⟩,⟨⟨@zdy,@Bool.false_eq_true⟩,⟨@zgo,⟨@zfz,@zcZ⟩⟩⟩⟩⟩,⟨⟨⟨⟨@zgm,@zgw⟩,⟨@zgF,@zgl⟩⟩,⟨⟨@zeE,@zeF⟩,⟨@zc9,⟨@decide_true,@zL⟩⟩⟩⟩,⟨⟨⟨@zes,@zcU⟩,⟨@zdb,⟨@zhm,@zel⟩⟩⟩,⟨⟨@zeC,@zcD⟩,⟨@zgG,⟨@zc5,@zdQ⟩⟩⟩⟩⟩⟩⟩,⟨⟨⟨⟨⟨⟨@zf2,@zdR⟩,⟨@zdr,@decide_false⟩⟩,⟨⟨@zcI,@Bool.and_true⟩,⟨@zgH,⟨@Int.toNat_natCast,@ze4⟩⟩⟩⟩,⟨⟨⟨@ze5,@ze6⟩,⟨@ze7,@Bool.or_true⟩⟩,⟨⟨@zev,@zb1⟩,⟨@Int.natCast_nonneg,⟨@zf3,@zgO⟩⟩⟩⟩⟩,⟨⟨⟨⟨@zgn,@Nat.add_zero⟩,⟨@zf4,@zdE⟩⟩,⟨⟨@zer,@zhn⟩,⟨@zgJ,⟨@zfY,@zgI⟩⟩⟩⟩,⟨⟨⟨@ze2,@ze3⟩,⟨@zfa,⟨@ze9,@zfd⟩⟩⟩,⟨⟨@not_false_eq_true,@zdF⟩,⟨@zd0,⟨@zdz,@zdD⟩⟩⟩⟩⟩⟩,⟨⟨⟨⟨⟨@zdG,@zgR⟩,⟨@zcC,@zgV⟩⟩,⟨⟨@zg0,@zg1⟩,⟨@zcH,⟨@zc6,@zgS⟩⟩⟩⟩,⟨⟨⟨@zgQ,@zgY⟩,⟨@zg9,⟨@zcM,@zen⟩⟩⟩,⟨⟨@zgA,@zee⟩,⟨@zef,⟨@zeg,@zfC⟩⟩⟩⟩⟩,⟨⟨⟨⟨@zc3,@zfE⟩,⟨@ze1,@zdH⟩⟩,⟨⟨@zd8,@zd5⟩,⟨@ze8,⟨@zcR,@zeh⟩⟩⟩⟩,⟨⟨⟨@zgy,@zgz⟩,⟨@Bool.false_or,⟨@zfH,@zfe⟩⟩⟩,⟨⟨@zfi,@zc8⟩,⟨@yB,⟨@zgp,@zfA⟩⟩⟩⟩⟩⟩⟩⟩,⟨⟨⟨⟨⟨⟨⟨@zfN,@zfQ⟩,⟨@zfR,@zfT⟩⟩,⟨⟨@zfW,@zfX⟩,⟨@zcW,⟨@zcK,@zex⟩⟩⟩⟩,⟨⟨⟨@zeL,@zew⟩,⟨@zd4,@Bool.true_and⟩⟩,⟨⟨@zem,@zeI⟩,⟨@zfg,⟨@zcB,@zd9⟩⟩⟩⟩⟩,⟨⟨⟨⟨@zdW,@zgc⟩,⟨@zgf,@zgg⟩⟩,⟨⟨@zgh,@zgi⟩,⟨@zcy,⟨@zde,@zcV⟩⟩⟩⟩,⟨⟨⟨@zc0,@zeH⟩,⟨@zeS,⟨@zeT,@zcT⟩⟩⟩,⟨⟨@zfI,@wL⟩,⟨@zdg,⟨@zeD,@false_implies⟩⟩⟩⟩⟩⟩,⟨⟨⟨⟨⟨@zcE,@zdc⟩,⟨@zei,@zcQ⟩⟩,⟨⟨@zdk,@zcN⟩,⟨@zcx,⟨@zgW,@zfL⟩⟩⟩⟩,⟨⟨⟨@zdu,@Int.toNat_zero⟩,⟨@Nat.succ_ne_self,⟨@zcP,@zfD⟩⟩⟩,⟨⟨@zfJ,@zb2⟩,⟨@zga,⟨@zgb,@zgd⟩⟩⟩⟩⟩,⟨⟨⟨⟨@zge,@zch⟩,⟨@zeJ,@zfO⟩⟩,⟨⟨@zfV,@zfK⟩,⟨@zcO,⟨@zfZ,@zgZ⟩⟩⟩⟩,⟨⟨⟨@zd7,@zgX⟩,⟨@zeP,⟨@zgs,@zgu⟩⟩⟩,⟨⟨@zek,@zgK⟩,⟨@zdh,⟨@zeQ,@zeR⟩⟩⟩⟩⟩⟩⟩,⟨⟨⟨⟨⟨⟨@zgr,@zgt⟩,⟨@zgv,@or_false⟩⟩,⟨⟨@zdj,@zgP⟩,⟨@zcY,⟨@zec,@zf5⟩⟩⟩⟩,⟨⟨⟨@zgq,@zgB⟩,⟨@zc7,@zej⟩⟩,⟨⟨@zeb,@zdf⟩,⟨@zfb,⟨@zfj,@zfk⟩⟩⟩⟩⟩,⟨⟨⟨⟨@zfl,@zfo⟩,⟨@zfp,@zeW⟩⟩,⟨⟨@zeX,@zfq⟩,⟨@zci,⟨@zdl,@zf7⟩⟩⟩⟩,⟨⟨⟨@zf8,@zdd⟩,⟨@zeN,⟨@Bool.and_eq_true,@zcg⟩⟩⟩,⟨⟨@zeK,@zeU⟩,⟨@zeV,⟨@zcX,@zey⟩⟩⟩⟩⟩⟩,⟨⟨⟨⟨⟨@zez,@zeA⟩,⟨@zeG,@zf9⟩⟩,⟨⟨@zd2,@zff⟩,⟨@zfh,⟨@zgC,@zgD⟩⟩⟩⟩,⟨⟨⟨@zea,@zcj⟩,⟨@zeO,⟨@and_true,@zdm⟩⟩⟩,⟨⟨@zda,@Int.cast_ofNat_Int⟩,⟨@zfm,⟨@not_true_eq_false,@zfF⟩⟩⟩⟩⟩,⟨⟨⟨⟨@zeB,@zfr⟩,⟨@zfs,@zho⟩⟩,⟨⟨@zhp,@zc4⟩,⟨@zg2,⟨@zg3,@zg4⟩⟩⟩⟩,⟨⟨⟨@zg5,@zg6⟩,⟨@zg7,⟨@zg8,@Bool.true_or⟩⟩⟩,⟨⟨@zdY,@zgU⟩,⟨@zfc,⟨@zd1,@zed⟩⟩⟩⟩⟩⟩⟩⟩⟩
end Go.Abs
namespace Go.Abs
section
variable {P : Program}
theorem gC {n:Nat} {t:TypeId} {r:List C} {k:IntKind} (hu:P.underlying t=some (.int k)) (h:xA P n t r): ∃m:Int,r=[.int k m]∧(Lit.int k m).wf=true:=by
 cases n with
 |zero=>exact h.elim
 |succ n=>simp only[xA,hu] at h;exact h
theorem pO {n:Nat} {t:TypeId} {r:List C} (hu:P.underlying t=some .string) (h:xA P n t r): ∃s:List UInt8,r=[.str s]∧s.length≤9223372036854775807:=by
 cases n with
 |zero=>exact h.elim
 |succ n=>simp only[xA,hu] at h;exact h
theorem kG {n:Nat} {t e:TypeId} {r:List C} (hu:P.underlying t=some (.slice e)) (h:xA P n t r): ∃m rows,n=m+1∧r=[zC (P.cellsOf e) rows]∧rows.length≤9223372036854775807∧ ∀x∈rows,xA P m e x:=by
 cases n with
 |zero=>exact h.elim
 |succ n=>simp only[xA,hu] at h;obtain⟨rows,h1,h2,h3⟩:=h;exact⟨n,rows,rfl,h1,h2,h3⟩
theorem gD {n:Nat} {t:TypeId} {fs:Array Field} {r:List C} (hu:P.underlying t=some (.struct fs)) (h:xA P n t r): ∃m rs,n=m+1∧r=rs.flatten∧kC (xA P m) (fs.toList.map (·.type)) rs:=by
 cases n with
 |zero=>exact h.elim
 |succ n=>simp only[xA,hu] at h;obtain⟨rs,h1,h2⟩:=h;exact⟨n,rs,rfl,h1,h2⟩
theorem kH {α:Type} {S:List C→Prop} (enc:α→List C) (hS: ∀r,S r→ ∃a,r=enc a): ∀(rows:List (List C)),(∀r∈rows,S r)→ ∃l:List α,rows=l.map enc
 |[],_=>⟨[],rfl⟩
 |r::rows,h=>by
  obtain⟨a,ha⟩:=hS r (h r (by simp))
  obtain⟨l,hl⟩:=kH enc hS rows (fun x hx=>h x (by simp[hx]))
  exact⟨a::l,by rw[ha,hl];rfl⟩
variable {tI tB tS tT tLT tR tLR tC tLC tO : TypeId}
end
section
variable {P : Program}
end
end Go.Abs
set_option maxRecDepth 100000
namespace Go.Proofs
open Go.Shelf Go.RowKit
def Tryz.laysIdxF_ren:Go.Shelf.Ren:=
 {
  f:=fun x=>
   match x with
   |15=>97
   |20=>131
   |n=>n,
  t:=fun x=>
   match x with
   |9=>9
   |23=>147
   |3=>3
   |4=>4
   |0=>0
   |21=>21
   |n=>n,
  g:=fun n=>n}
theorem Tryz.laysIdxF:LaysGw.n15 Tryz.prog Tryz.laysIdxF_ren:=
 {mixed:=by kernel_rfl,f15:=Eq.trans Tryz.func97 (congrArg some (Eq.refl (BodyGw.n15 Tryz.laysIdxF_ren))),
  f20:=Eq.trans Tryz.func131 (congrArg some (Eq.refl (BodyGw.n20 Tryz.laysIdxF_ren))),t0:=Tryz.underlying0,
  a0:=Tryz.isAgg0,z0:=Tryz.sizeOf0,v0:=Tryz.zeroValue0,i0:=by kernel_rfl,
  t3:=Tryz.underlying3,a3:=Tryz.isAgg3,z3:=Tryz.sizeOf3,v3:=Tryz.zeroValue3,
  i3:=by kernel_rfl,t4:=Tryz.underlying4,a4:=Tryz.isAgg4,
  z4:=Tryz.sizeOf4,v4:=Tryz.zeroValue4,i4:=by kernel_rfl,
  t9:=Tryz.underlying9,a9:=Tryz.isAgg9,z9:=Tryz.sizeOf9,v9:=Tryz.zeroValue9,
  i9:=by kernel_rfl,t21:=Tryz.underlying21,a21:=Tryz.isAgg21,
  z21:=Tryz.sizeOf21,v21:=Tryz.zeroValue21,i21:=by kernel_rfl,
  t23:=Tryz.underlying147,a23:=Tryz.isAgg147,z23:=Tryz.sizeOf147,v23:=Tryz.zeroValue147,
  i23:=by kernel_rfl}
end Go.Proofs
set_option maxRecDepth 10000
namespace Go.Wire
open Go.Lib
abbrev Txt:=List UInt8
end Go.Wire
set_option maxRecDepth 10000
namespace Go.Wd
open Go.Lib Go.Wire
def oU (c:UInt8):List Txt→Txt
 |[]=>[]
 |[w]=>w
 |w::v::r=>w++c::oU c (v::r)
def cleanL (L:List (List Txt)):Prop:= ∀ws∈L,ws≠[]∧ ∀w∈ws,(32:UInt8) ∉ w∧(10:UInt8) ∉ w
def dec (n:Int):Txt:=decDigits n.toNat
structure Ten where
 k:Int
 n:Int
 u:Int
 deriving DecidableEq
structure Bil where
 dr:Int
 de:Int
 pa:Int
 su:Int
 cu:Int
 te:Ten
 da:Int
 ci:Int
 py:Int
 ne:Int
 ra:Int
 fl:Int
 pt:Int
 deriving DecidableEq
structure Nms where
 cu:List Txt
 ci:List Txt
 fi:List Txt
def nm (l:List Txt) (i:Int):Txt:=l.getD i.toNat []
def bit (k fl:Int):Bool:=decide (fl/k % 2=1)
structure Cal where
 date:Int→Int×Int×Int
 day:Int→Int→Int→Int
def zhr (C:Cal) (d:Int):Txt:=oU 45 [dec (C.date d).1,dec (C.date d).2.1,dec (C.date d).2.2]
def zl1 (C:Cal) (t:Ten):List Txt:=
 if t.k=0 then[[112,97,121],[97,116],[115,105,103,104,116]]
 else if t.k=3 then[[112,97,121],[111,110],zhr C t.n]
 else if t.k=4 then[[112,97,121],[97,116],[117,115,97,110,99,101]]
 else[[112,97,121],dec t.n,if t.u=1 then[109,111,110,116,104,115] else[100,97,121,115],[97,102,116,101,114],if t.k=2 then[100,97,116,101] else[115,105,103,104,116]]
def zl2 (pt part:Int):List Int:=((List.range pt.toNat).map Int.ofNat).filter fun i=>decide (i≠part)
def orW:List Txt→List Txt
 |[]=>[]
 |[w]=>[w]
 |w::v::r=>w::[111,114]::orW (v::r)
def zl3 (pt part:Int):List Txt:=orW ((zl2 pt part).map fun i=>dec (i+1))
def rows (C:Cal) (N:Nms) (b:Bil) (p:Int):List (List Txt):=
 [[if bit 1 b.fl=true then[98,105,108,108] else[112,97,112,101,114],dec (p+1),[111,102],dec b.pt],
  [[100,114,97,119,110],[105,110],nm N.ci b.ci,[111,110],zhr C b.da],
  zl1 C b.te,
  if b.pa= -1 then[[116,111],[98,101,97,114,101,114]] else if bit 4 b.fl=true then[[116,111],nm N.fi b.pa,[110,111,116],[116,111],[111,114,100,101,114]] else[[116,111],nm N.fi b.pa,[111,114],[111,114,100,101,114]],
  if b.ra=0 then[dec b.su,nm N.cu b.cu] else[dec b.su,nm N.cu b.cu,[119,105,116,104],[105,110,116,101,114,101,115,116],[97,116],dec b.ra,[112,101,114],[109,105,108,108,101]],
  [[116,111],[98,101],[112,97,105,100],[98,121],nm N.fi b.de,[105,110],nm N.ci b.py]]
 ++((if b.pt>1 then[[117,110,108,101,115,115]::[112,97,114,116]::(zl3 b.pt p++[[119,97,115],[112,97,105,100]])] else[])
 ++((if b.ne= -1 then[] else[[[105,110],[110,101,101,100],[97,115,107],nm N.fi b.ne]])
 ++((if bit 2 b.fl=true then[[[119,105,116,104,111,117,116],[112,114,111,116,101,115,116]]] else[])++[[[115,105,103,110,101,100],nm N.fi b.dr]])))
def wd (l:List Txt) (i:Nat):Txt:=l.getD i []
end Go.Wd
set_option maxRecDepth 10000
namespace Go.Ex
open Go.Lib Go.Wd Go.Wire
structure Fld where
 name:Txt
 words:List (List Txt)
structure Dcm where
 kind:Txt
 flds:List Fld
structure Pln where
 kind:Txt
 names:List Txt
 texts:List Txt
structure Dmd where
 op:Int
 doc:Txt
 fld:Txt
 oth:Txt
 sec:Txt
 txt:Txt
 lo:Int
 hi:Int
deriving DecidableEq
structure Plc where
 doc:Int
 fld:Int
deriving DecidableEq
structure Flw where
 dem:List Int
 pls:List Plc
 sure:Bool
def letB (c:UInt8):Bool:=decide (97≤c.toNat∧c.toNat≤122)||decide (65≤c.toNat∧c.toNat≤90)
def digB (c:UInt8):Bool:=decide (48≤c.toNat∧c.toNat≤57)
def tA (c:UInt8):Bool:=letB c||(digB c||decide (c.toNat=95))
def mH (c:UInt8):Bool:=decide (32≤c.toNat∧c.toNat≤126)
def spanN (p:UInt8→Bool):Txt→Nat
 |[]=>0
 |c::t=>if p c=true then spanN p t+1 else 0
theorem zl4 {p:UInt8→Bool} {s:Txt} {i:Nat} (h:i<s.length):spanN p (s.drop i)=if p s[i]=true then spanN p (s.drop (i+1))+1 else 0:=by
 rw[List.drop_eq_getElem_cons h,spanN]
theorem bM {p:UInt8→Bool}: ∀{s:Txt},spanN p s=s.length ↔ s.all p=true
 |[]=>by simp[spanN]
 |c::t=>by
  rw[spanN,List.all_cons,Bool.and_eq_true,←bM (s:=t)]
  split
  ·rename_i h;simp[h]
  ·rename_i h;simp[h]
def nameP (s:Txt):Bool:=decide (s≠[])&&(letB (s.getD 0 0)&&(decide (s.length≤20)&&decide (spanN tA s=s.length)))
def vR (c:UInt8):Bool:=decide (33≤c.toNat∧c.toNat≤126)
def vS (s:Txt):Bool:=decide (s≠[])&&(decide (s.length≤20)&&s.all vR)
def qH (l:List Txt):Nat→Bool
 |0=>false
 |n+1=>qH l n||decide (l.getD n []∈l.take n)
def wP (l:List Txt):Int:=if l.length>4 then 6 else if l=[] then 4 else if l.all vS=true then(if qH l l.length=true then 5 else 0) else 2
def xT (f:Nat→Int):Nat→Nat→Int
 |0,_=>0
 |n+1,i=>if f i=0 then xT f n (i+1) else f i
def xB:Fld:=⟨[],[]⟩
def wT (l:List Fld) (i:Nat):Int:=
 let f:=l.getD i xB
 if nameP f.name=true then
  if (l.take i).any (fun g=>decide (g.name=f.name))=true then 5
  else if f.words.length>8 then 6
  else xT (fun k=>wP (f.words.getD k [])) f.words.length 0
 else 2
def xH (d:Dcm):Int:=if nameP d.kind=true then(if d.flds.length>12 then 6 else xT (wT d.flds) d.flds.length 0) else 2
def yY (f:Fld):Nat:=(f.words.map List.length).foldl (· * ·) 1
def vI:List Fld→Nat→Int×Int
 |[],n=>((n:Int),0)
 |f::l,n=>if n*yY f>4096 then(0,6) else vI l (n*yY f)
def cntD (d:Dcm):Int×Int:=if xH d=0 then vI d.flds 1 else(0,xH d)
end Go.Ex
set_option maxRecDepth 100000
set_option maxHeartbeats 4000000
namespace Go.Abs
open Go.Proofs Go.RowKit Go.Lib Go.Wd Go.Wire Go.Ex
def zM (l:List Txt):List (List C):=l.map fun s=>[.str s]
@[simp] theorem yC (l:List Txt):(zM l).length=l.length:=by simp[zM]
theorem uP {l:List Txt} {i:Nat} (h:i<l.length):(zM l).getD i []=[.str l[i]]:=by simp[zM,h]
@[simp] theorem wF (l:List Txt):C.normRows (zM l)=zM l:=zH (fun _=>rfl) l
theorem u8r (c:UInt8):(0:Int)≤(c.toNat:Int)∧(c.toNat:Int)≤255:=by
 have:=c.toNat_lt
 omega
theorem wQ {S:V→Prop} {x y:Bool} (h:S (.bool x)) (e:y=true ↔ x=true):S (.k (.c (.bool y))):=by
 rw[Bool.eq_iff_iff.2 e];exact h
theorem zhs (c:UInt8):Spec Tryz.prog 125 [.int .u8 (c.toNat:Int)] (fun v=>v=.bool (letB c)):=by
 refine Spec.of_awlS hf125 okf125 (by simp) fun S hS=>?_
 unfold letB at hS
 generalize c.toNat=a at hS
 simp only[Qs,if_true,if_false,List.nodup_nil,Nat.reduceBEq,uu f125.eq_1,vv f125r1.eq_1,uu f125b2.eq_1,vv f125r3.eq_1,uu f125b4.eq_1]
 repeat' (apply And.intro<;>intro _)
 all_goals (refine wQ hS ?_;simp only[Bool.or_eq_true,decide_eq_true_eq,Bool.false_eq_true,true_iff,false_iff];omega)
theorem zht (c:UInt8):Spec Tryz.prog 160 [.int .u8 (c.toNat:Int)] (fun v=>v=.bool (digB c)):=by
 refine Spec.of_awlS hf160 okf160 (by simp) fun S hS=>?_
 unfold digB at hS
 generalize c.toNat=a at hS
 simp only[Qs,if_true,List.nodup_nil,Nat.reduceBEq,uu f160.eq_1,vv f160r1.eq_1,uu f160b2.eq_1,vv f160r3.eq_1,uu f160b4.eq_1]
 repeat' (apply And.intro<;>intro _)
 all_goals (refine wQ hS ?_;simp only[Bool.or_eq_true,decide_eq_true_eq,Bool.false_eq_true,true_iff,false_iff];omega)
theorem zl5 (c:UInt8):Spec Tryz.prog 127 [.int .u8 (c.toNat:Int)] (fun v=>v=.bool (tA c)):=by
 refine Spec.of_awlS hf127 okf127 (by simp) fun S hS=>?_
 have g1:=zhs c
 have g2:=zht c
 unfold tA at hS
 have hb:((c.toNat:Int)==95)=decide (c.toNat=95):=by
  rw[Bool.eq_iff_iff];simp only[beq_iff_eq,decide_eq_true_eq];omega
 generalize letB c=x at g1 hS
 generalize digB c=y at g2 hS
 cases x with
 |true=>
  simp only[Qs,Nat.reduceBEq,uu f127.eq_1,vv f127r1.eq_1,uu f127b2.eq_1,vv f127r3.eq_1,uu f127b4.eq_1]
  refine zD g1 ?_ (ha:=by rfl)
  simp only[Qs,List.nodup_nil,Nat.reduceBEq]
  exact hS
 |false=>
  simp only[Qs,Nat.reduceBEq,uu f127.eq_1,vv f127r1.eq_1,uu f127b2.eq_1,vv f127r3.eq_1,uu f127b4.eq_1]
  refine zD g1 ?_ (ha:=by rfl)
  simp only[Qs,Nat.reduceBEq]
  refine zD g2 ?_ (ha:=by rfl)
  cases y with
  |true=>
   simp only[Qs,if_false,List.nodup_nil,Nat.reduceBEq]
   exact hS
  |false=>
   simp only[hb,Qs,if_true,if_false,List.nodup_nil,Nat.reduceBEq]
   exact hS
theorem bN {g:Nat} {p:UInt8→Bool} (hg: ∀c:UInt8,Spec Tryz.prog g [.int .u8 (c.toNat:Int)] (fun v=>v=.bool (p c))) (s:Txt) (hl:s.length≤1000000):Spec Tryz.prog 126 [.str s,.k (.c (.fn g []))] (fun v=>v=.int .i64 (spanN p s:Nat)):=by
 refine Spec.of_awlS hf126 okf126 (by simp) fun S hS=>?_
 simp only[Qs,Nat.reduceAdd,uu f126.eq_1,uu f126b10.eq_1,uu f126b11.eq_1,vv f126r12.eq_1,uu f126b13.eq_1,vv f126r14.eq_1,uu f126b15.eq_1]
 rw[uu f126l9.eq_1]
 refine zS (fun i:Nat=>[(0,.str s),(1,.k (.c (.fn g []))),(5,.int .i64 i)]) (fun _=>[]) (fun i=>i≤s.length∧spanN p s=i+spanN p (s.drop i)) (fun i=>s.length-i) 0 rfl rfl ⟨Nat.zero_le _,by simp⟩ ?_
 rintro i ⟨hi,hD⟩
 by_cases hlt:i<s.length
 ·have c1:(i:Int)<s.length:=by omega
  have c4:IntKind.i64.wrap ((i:Int)+1)=(i:Int)+1:=wrap_in (by omega) (by omega)
  have hgt:s.getD i 0=s[i]:=by rw[List.getD_eq_getElem?_getD,List.getElem?_eq_getElem hlt];rfl
  have gi:=hg s[i]
  rw[zl4 hlt] at hD
  simp only[c1,hgt,Qs,iX,if_true,Nat.reduceBEq,vv f126r6.eq_1,uu f126b7.eq_1,uu f126b8.eq_1]
  refine pN gi ?_ (ha:=by rfl)
  cases hp:p s[i] with
  |true=>
   rw[if_pos hp] at hD
   simp only[c4,Qs,if_true,Nat.reduceBEq,vv f126r3.eq_1,uu f126b4.eq_1,uu f126b5.eq_1]
   exact Next.intro (i+1) rfl rfl ⟨by omega,by omega⟩ (by omega)
  |false=>
   rw[if_neg (by rw[hp];simp)] at hD
   rw[hD] at hS
   simp only[Qs,if_true,List.nodup_nil,Nat.reduceBEq,vv f126r1.eq_1,uu f126b2.eq_1,uu f126b5.eq_1]
   exact hS
 ·have c1: ¬(i:Int)<s.length:=by omega
  rw[List.drop_eq_nil_of_le (by omega)] at hD
  rw[hD] at hS
  simp only[c1,Qs,iX,if_true,List.nodup_nil,Nat.reduceBEq,vv f126r1.eq_1,uu f126b2.eq_1,uu f126b5.eq_1,vv f126r6.eq_1,uu f126b7.eq_1,uu f126b8.eq_1]
  exact hS
theorem c92 (s:Txt) (hl:s.length≤1000000):Spec Tryz.prog 92 [.str s] (fun v=>v=.bool (nameP s)):=by
 refine Spec.of_awlS hf92 okf92 (by simp) fun S hS=>?_
 have g2:=bN zl5 s hl
 unfold nameP at hS
 by_cases h0:s=[]
 ·rw[decide_eq_false (fun q=>q h0)] at hS
  have e2:(s !=[])=false:=by simp[h0]
  simp only[e2,Qs,List.nodup_nil,Nat.reduceBEq,Int.reduceLE,uu f92.eq_1,vv f92r1.eq_1,uu f92b2.eq_1,vv f92r3.eq_1,uu f92b4.eq_1]
  exact⟨fun _=>hS,fun q=>absurd h0 q⟩
 ·have hlen:0<s.length:=List.length_pos_iff.2 h0
  have q0:(0:Int)<s.length:=by omega
  rw[decide_eq_true h0,Bool.true_and] at hS
  generalize hc:s.getD 0 0=c at hS
  have g1:=zhs c
  generalize letB c=x at g1 hS
  have h20:((s.length:Int)≤20)=(s.length≤20):=by rw[eq_iff_iff];omega
  have hq:(((spanN tA s:Nat):Int)=s.length)=(spanN tA s=s.length):=by rw[eq_iff_iff];omega
  simp only[q0,hc,Int.toNat_zero,Qs,List.nodup_nil,Nat.reduceBEq,Int.reduceLE,uu f92.eq_1,vv f92r1.eq_1,uu f92b2.eq_1,vv f92r3.eq_1,uu f92b4.eq_1]
  refine⟨fun q=>absurd q h0,fun _=>?_⟩
  refine zD g1 ?_ (ha:=by rfl)
  cases x with
  |false=>
   simp only[Qs,if_true,List.nodup_nil,Nat.reduceBEq]
   exact hS
  |true=>
   rw[Bool.true_and] at hS
   simp only[Qs,if_true,List.nodup_nil,Nat.reduceBEq]
   refine⟨fun q=>?_,fun q=>?_⟩
   ·refine zD g2 ?_ (ha:=by rfl)
    rw[decide_eq_true (h20▸q),Bool.true_and] at hS
    simp only[Qs,if_true,List.nodup_nil,Nat.reduceBEq]
    refine wQ hS ?_
    rw[beq_iff_eq,decide_eq_true_eq,hq]
   ·rw[decide_eq_false (fun z=>q (h20▸z))] at hS
    exact hS
end Go.Abs
namespace Go.Abs
open Go.Proofs Go.RowKit
theorem Spec.of_awlP {P:Program} {f:FuncId} {n:Nat} {c:AQ} {rs:List RX} {args:List V} {X:V} (hc:zI P f=some ⟨n,c.erase,rs⟩) (hok:c.ok=true) (hlen:args.length≤n)
  (h: ∀S:V→Prop,(∀r,r.fz.nrm=X→S r)→awl P c (endK rs S) (initT 0 args) []):Spec P f args (fun r=>r=X):=
 (Spec.of_awl hc hok hlen (h (fun r=>r.fz.nrm=X) fun _ h=>h)).plain.mono (by rintro r' ⟨r,h,rfl⟩;exact h)
theorem rP {P:Program} {f:FuncId} (h:(match P.funcs[f]? with|some fn=>fn.body.isSome&& !(fn.name== "runtime.NumGoroutine")|none=>false)=true):sH P f:=by
 unfold sH
 cases hf:P.funcs[f]? with
 |none=>rw[hf] at h;simp at h
 |some fn=>rw[hf] at h;simp only[Bool.and_eq_true,Bool.not_eq_true'] at h;exact⟨fn,rfl,h.1,h.2⟩
theorem xU {w w':World} (h:Below w.heap.size w w'):xM w w':=⟨h.os,h.tape,h.output,h.size,h.block⟩
theorem gE {w w':World} (h:xM w w'):Below w.heap.size w w':=⟨h.os,h.tape,h.output,h.size,h.block⟩
def C.sc:C→Bool
 | .int _ _=>true
 | .bool _=>true
 | .str _=>true
 |_=>false
def wG:C→Value
 | .int k n=> .int k n
 | .bool b=> .bool b
 | .str s=> .string ⟨s.toArray⟩
 |_=> .bool false
theorem bO {w:World} {Z:Bk→Prop} {c:C} {v:Value} (hc:c.sc=true) (h:PRep w Z c v):v=wG c:=by
 cases h<;>first|rfl|cases hc
theorem zhu {w:World} {Z:Bk→Prop} {c:C} (hc:c.sc=true):PRep w Z c (wG c):=by
 cases c<;>first|exact .int _ _|exact .bool _|exact .str _|cases hc
theorem zl6 {c:C} (hc:c.sc=true):(wG c).oneCell'=true:=(zhu (w:=default) (Z:=fun _=>False) hc).oneCell
theorem zhv {α:Type} {sz:Nat} (h0:0<sz): ∀(rows:List (List α)) (k:Nat) (c:α),(∀r,r∈rows→r.length=sz)→rows.flatten[k]?=some c→ ∃i j r,rows[i]?=some r∧r[j]?=some c∧k=i*sz+j
 |[],k,c,_,h=>by simp at h
 |r::rows,k,c,hl,h=>by
  have hr:=hl r List.mem_cons_self
  rw[List.flatten_cons] at h
  by_cases hk:k<sz
  ·rw[List.getElem?_append_left (by omega)] at h
   exact⟨0,k,r,rfl,h,by omega⟩
  ·rw[List.getElem?_append_right (by omega)] at h
   obtain⟨i,j,r',h1,h2,h3⟩:=zhv h0 rows (k-r.length) c (fun r' hr'=>hl r' (List.mem_cons_of_mem _ hr')) h
   exact⟨i+1,j,r',h1,h2,by rw[Nat.add_mul];omega⟩
theorem zhw {α:Type} {sz:Nat}: ∀(rows:List (List α)) (i j:Nat) (r:List α) (c:α),(∀r,r∈rows→r.length=sz)→rows[i]?=some r→r[j]?=some c→rows.flatten[i*sz+j]?=some c
 |[],i,j,r,c,_,h,_=>by simp at h
 |r0::rows,0,j,r,c,hl,h,hc=>by
  cases h
  have hj:=(List.getElem?_eq_some_iff.1 hc).1
  rw[List.flatten_cons,Nat.zero_mul,Nat.zero_add,List.getElem?_append_left hj]
  exact hc
 |r0::rows,i+1,j,r,c,hl,h,hc=>by
  have hr:=hl r0 List.mem_cons_self
  rw[List.flatten_cons,Nat.add_mul,List.getElem?_append_right (by omega),show i*sz+1*sz+j-r0.length=i*sz+j by omega]
  exact zhw rows i j r c (fun r' hr'=>hl r' (List.mem_cons_of_mem _ hr')) h hc
theorem zhx {α:Type} {sz:Nat}: ∀(rows:List (List α)),(∀r,r∈rows→r.length=sz)→rows.flatten.length=rows.length*sz
 |[],_=>by simp
 |r0::rows,hl=>by
  rw[List.flatten_cons,List.length_append,zhx rows fun r' hr'=>hl r' (List.mem_cons_of_mem _ hr'),hl r0 List.mem_cons_self,List.length_cons,Nat.add_mul]
  omega
def qI (rows:List (List C)):List Value:=rows.flatten.map wG
structure Plain (sz:Nat) (rows:List (List C)):Prop where
 pos:0<sz
 len: ∀r,r∈rows→r.length=sz
 sc: ∀r,r∈rows→ ∀c,c∈r→c.sc=true
theorem Plain.one {sz:Nat} {rows:List (List C)} (h:Plain sz rows): ∀u∈qI rows,u.oneCell'=true:=by
 intro u hu
 obtain⟨c,hc,rfl⟩:=List.mem_map.1 hu
 obtain⟨r,hr,hcr⟩:=List.mem_flatten.1 hc
 exact zl6 (h.sc r hr c hcr)
theorem Plain.at {sz:Nat} {rows:List (List C)} (h:Plain sz rows) {i j:Nat} {r:List C} {c:C} (hr:rows[i]?=some r) (hc:r[j]?=some c):(qI rows)[i*sz+j]?=some (wG c)∧c.sc=true:=by
 refine⟨?_,h.sc r (List.mem_of_getElem? hr) c (List.mem_of_getElem? hc)⟩
 rw[qI,List.getElem?_map,zhw rows i j r c h.len hr hc];rfl
theorem Plain.slice {sz:Nat} {rows:List (List C)} (h:Plain sz rows) {w:World} {Z:Bk→Prop} {v:Value} (hv:PRep w Z (zC sz rows) v):
  ∃p cap,v=.slice p rows.length cap∧(0<rows.length→ ∃b o,p=some ⟨b,o,none⟩∧ ∀j u,(qI rows)[j]?=some u→w.cell? ⟨b,o+j,none⟩=some u)∧(0<rows.length→rows.length≤cap):=by
 unfold zC at hv
 by_cases h0:rows=[]
 ·subst h0
  have h':PRep w Z (.list 0 none []) v:=hv
  generalize hc:C.list 0 none []=c at h'
  cases h' with
  |nil=>exact⟨none,0,rfl,fun hk=>absurd hk (by simp),fun hk=>absurd hk (by simp)⟩
  |emp _ _ a=>exact⟨some a,0,rfl,fun hk=>absurd hk (by simp),fun hk=>absurd hk (by simp)⟩
  |list b o cap sz nl rws val=>
   injection hc with _ _ hr
   subst hr
   exact⟨some ⟨b,o,none⟩,cap,rfl,fun hk=>absurd hk (by simp),fun hk=>absurd hk (by simp)⟩
  |_=>cases hc
 ·have e:(if rows.isEmpty=true then 0 else sz)=sz:=by cases rows<;>simp_all
  rw[e] at hv
  generalize hc:C.list sz none rows=c at hv
  cases hv with
  |nil=>injection hc with _ _ hr;exact absurd hr h0
  |emp=>injection hc with _ _ hr;exact absurd hr h0
  |list b o cap sz nl rws val h1 h2 h3 h4 h5 h6 h7=>
   injection hc with hs _ hr
   subst hs hr
   refine⟨some ⟨b,o,none⟩,cap,rfl,fun _=>⟨b,o,rfl,fun k u hu=>?_⟩,fun _=>h2⟩
   rw[qI,List.getElem?_map] at hu
   obtain⟨c,hc,rfl⟩:=Option.map_eq_some_iff.1 hu
   obtain⟨i,j,r,g1,g2,rfl⟩:=zhv h.pos rows k c h.len hc
   rw[h6 i j r c g1 g2,bO (h.sc r (List.mem_of_getElem? g1) c (List.mem_of_getElem? g2)) (h7 i j r c g1 g2)]
  |_=>cases hc
theorem zl7 (l:List Int):Plain 1 (zK l):=by
 refine⟨by decide,fun r hr=>?_,fun r hr c hc=>?_⟩<;>obtain⟨s,_,rfl⟩:=List.mem_map.1 hr
 ·rfl
 ·simp at hc;subst hc;rfl
end Go.Abs
set_option maxRecDepth 100000
set_option maxHeartbeats 4000000
namespace Go.Proofs
open Go.Shelf Go.RowKit Go.Lib Go.Wd Go.Wire Go.Ex
def uE (r:Nat):Bool:=decide (r<33)||decide (r>126)
theorem zl8 (r:Nat) (W:World):FnGives Tryz.prog 98 #[] #[encR r] (.bool (uE r)) W:=by
 show Calls Tryz.prog 98 #[.int .i32 (r:Int)] W _
 by_cases h1:r<33
 ·have c1:(r:Int)<33:=by omega
  have e:uE r=true:=by simp[uE,h1]
  rw[e]
  go_enter Tryz.func98,Tryz.ntmps98
  go_wp2
  go_ret
  exact⟨rfl,0,rfl⟩
 ·have c1: ¬(r:Int)<33:=by omega
  by_cases h2:r>126
  ·have c2:(r:Int)>126:=by omega
   have e:uE r=true:=by simp[uE,h1,h2]
   rw[e]
   go_enter Tryz.func98,Tryz.ntmps98
   go_wp2
   go_ret
   exact⟨rfl,0,rfl⟩
  ·have c2: ¬(r:Int)>126:=by omega
   have e:uE r=false:=by simp[uE,h1,h2]
   rw[e]
   go_enter Tryz.func98,Tryz.ntmps98
   go_wp2
   go_ret
   exact⟨rfl,0,rfl⟩
theorem zl9 (s:ByteArray) (i:Nat) (h:(s.get! i).toNat<128):Utf8.decode s i=((s.get! i).toNat,1):=by
 unfold Utf8.decode
 simp only[Nat.add_zero]
 rw[if_pos h]
theorem zma (s:ByteArray) (i:Nat) (h: ¬(s.get! i).toNat<128):128≤(Utf8.decode s i).1:=by
 unfold Utf8.decode Utf8.runeError
 simp only[Nat.add_zero,Bool.and_eq_true,decide_eq_true_eq]
 repeat' split
 all_goals simp only
 all_goals omega
theorem zmb (s:Txt) (i:Nat) (h:i<s.length):(⟨s.toArray⟩:ByteArray).get! i=s[i]:=by
 show(s.toArray)[i]! =s[i]
 simp[h]
theorem zhy (s:Txt): ∀(f pos:Nat),s.length-pos≤f→(Lib.idxFuncFrom uE true ⟨s.toArray⟩ f pos<0 ↔ (s.drop pos).all vR=true)
 |0,pos,h=>by
  rw[List.drop_eq_nil_of_le (by omega)]
  simp[Lib.idxFuncFrom]
 |f+1,pos,h=>by
  unfold Lib.idxFuncFrom
  have hs:(⟨s.toArray⟩:ByteArray).size=s.length:=rfl
  rw[hs]
  by_cases hp:pos<s.length
  ·rw[if_pos hp,List.drop_eq_getElem_cons hp,List.all_cons,Bool.and_eq_true]
   have hg:=zmb s pos hp
   by_cases h8:(s[pos]).toNat<128
   ·rw[zl9 _ _ (by rw[hg];exact h8),hg]
    by_cases hb:uE (s[pos]).toNat=true
    ·rw[if_pos hb]
     have: ¬vR s[pos]=true:=fun q=>by
      unfold vR at q;unfold uE at hb
      rw[decide_eq_true_eq] at q
      rw[Bool.or_eq_true,decide_eq_true_eq,decide_eq_true_eq] at hb
      omega
     exact⟨fun q=>absurd q (by omega),fun q=>absurd q.1 this⟩
    ·rw[if_neg hb]
     have:vR s[pos]=true:=by
      unfold vR;unfold uE at hb
      rw[Bool.or_eq_true,decide_eq_true_eq,decide_eq_true_eq] at hb
      rw[decide_eq_true_eq];omega
     rw[zhy s f (pos+1) (by omega)]
     exact⟨fun q=>⟨this,q⟩,fun q=>q.2⟩
   ·have hd:=zma ⟨s.toArray⟩ pos (by rw[hg];exact h8)
    have hb:uE (Utf8.decode ⟨s.toArray⟩ pos).1=true:=by
     unfold uE
     rw[Bool.or_eq_true,decide_eq_true_eq,decide_eq_true_eq];omega
    rw[if_pos hb]
    have: ¬vR s[pos]=true:=fun q=>by
     unfold vR at q
     rw[decide_eq_true_eq] at q
     omega
    exact⟨fun q=>absurd q (by omega),fun q=>absurd q.1 this⟩
  ·rw[if_neg hp,List.drop_eq_nil_of_le (by omega)]
   simp
end Go.Proofs
namespace Go.Abs
open Go.Proofs Go.RowKit Go.Lib Go.Wd Go.Wire Go.Ex
def sigI (s:Txt):Int:=Lib.idxFunc uE true ⟨s.toArray⟩
theorem zmc (s:Txt):sigI s<0 ↔ s.all vR=true:=zhy s s.length 0 (by omega)
theorem c97 (s:Txt):Spec Tryz.prog 97 [.str s,.k (.c (.fn 98 []))] (fun v=>v=.int .i64 (sigI s)):=by
 refine⟨rP (by kernel_rfl),fun w Z vs hG hz ha=>?_⟩
 obtain⟨vl⟩:=vs
 match vl,ha with
 |[],ha=>exact absurd ha.1 (by simp)
 |[_],ha=>exact absurd ha.1 (by simp)
 |_::_::_::_,ha=>exact absurd ha.1 (by simp)
 |[v,v2],ha=>
  have e1:=uW (ha.2 0 _ v rfl rfl).2.2
  subst e1
  have h2:PRep w Z (.fn 98 []) v2:=(ha.2 1 _ v2 rfl rfl).2.2
  obtain⟨lb,rfl,hlb⟩: ∃lb:Array Value,v2=.func (.func 98) #[] lb∧lb.size=0:=by
   cases h2 with
   |fn _ _ vs _ hs _ _=>exact⟨vs,rfl,hs⟩
  obtain rfl:lb= #[]:=Array.eq_empty_of_size_eq_zero hlb
  refine(Any.strings_IndexFunc Tryz.laysIdxF 98 #[] (enters_of Tryz.func98 (by kernel_rfl) rfl) uE ⟨s.toArray⟩ w (fun W x _=>zl8 x W)).mono ?_
  rintro e w' ⟨rfl,hb⟩
  exact⟨_,_,rfl,rfl,fun _=>rfl,oS hG (xU hb) (fun _=>rfl) (fun _=>⟨rfl,.int _ _⟩)⟩
theorem c59 (s:Txt) (hl:s.length≤1000000):Spec Tryz.prog 59 [.str s] (fun v=>v=.bool (vS s)):=by
 refine Spec.of_awlS hf59 okf59 (by simp) fun S hS=>?_
 have g:=c97 s
 have hn:=zmc s
 generalize sigI s=k at g hn
 unfold vS at hS
 simp only[Qs,if_true,List.nodup_nil,Nat.reduceBEq,uu f59.eq_1,vv f59r1.eq_1,uu f59b2.eq_1,vv f59r3.eq_1,uu f59b4.eq_1]
 refine⟨fun q=>?_,fun q=>⟨fun h20=>?_,fun h20=>?_⟩⟩
 ·rw[decide_eq_false (fun z=>z q)] at hS;exact hS
 ·refine zD g ?_ (ha:=by rfl)
  rw[decide_eq_true q,decide_eq_true (by omega),Bool.true_and,Bool.true_and] at hS
  simp only[Qs,if_true,List.nodup_nil,Nat.reduceBEq]
  exact wQ hS (by rw[decide_eq_true_eq,hn])
 ·rw[decide_eq_true q,decide_eq_false (by omega)] at hS;exact hS
end Go.Abs
