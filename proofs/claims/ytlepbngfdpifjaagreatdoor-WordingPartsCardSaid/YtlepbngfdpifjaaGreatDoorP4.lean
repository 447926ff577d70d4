/- A part of the proof; the last text states what is proved. -/
import Derived.Test.YtlepbngfdpifjaaGreatDoorP3
import Derived.Test.YtlepbngfdpifjaaGreatDoorProg
import Derived.IntWalk
import Derived.RangeFuncFrom
import Derived.Shelf.Small.Strs
import Derived.Lib.AtoiAll
import Derived.Lib.ItoaNum
set_option linter.unusedVariables false
set_option linter.unusedSimpArgs false
set_option maxRecDepth 100000
namespace Go.Abs
open Go.Proofs
abbrev LA:=List AI
theorem uu {a b:AQ} (h:a=b) (P ts os Q):awl P a Q ts os=awl P b Q ts os:=h▸rfl
theorem vv {α:Type} {a b:α} (h:a=b):a=b:=h
def f12r1:LA:=[.mk none (.mov 4 (.v (.k (.c (.int .i64 0)))))]
def f12b2:AQ:=(.seq (.region f12r1) .ret)
def f12r3:LA:=[.mk none (.mov 156 (.t 10)),.mk none (.mov 4 (.t 156))]
def f12b4:AQ:=(.seq (.region f12r3) .ret)
def f12r5:LA:=[.mk none (.load 148 8 true (.t 2)),.mk none (.faddr 149 9 (.t 3)),.mk none (.load 150 1 false (.t 149)),.mk none (.faddr 151 10 (.t 3)),.mk none (.load 152 1 false (.t 151)),.mk none (.call (some 153) 40 [(.t 148),(.t 150),(.t 152)]),.mk none (.mov 147 (.t 153)),.mk none (.extr 154 (.t 147) 0),.mk none (.extr 155 (.t 147) 1),.mk none (.mov 9 (.t 154)),.mk none (.mov 10 (.t 155))]
def f12b6:AQ:=(.seq (.region f12r5) f12b4)
def f12b7:AQ:=(.cond (.t 146) f12b6 .skip)
def f12r8:LA:=[.mk none (.faddr 143 5 (.t 3)),.mk none (.faddr 144 0 (.t 143)),.mk none (.load 145 1 false (.t 144)),.mk none (.bin 146 .eql (.t 145) (.v (.k (.c (.int .i64 4)))))]
def f12b9:AQ:=(.seq (.region f12r8) f12b7)
def f12b10:AQ:=(.seq f12b9 f12b2)
def f12r11:LA:=[.mk none (.mov 4 (.v (.k (.c (.int .i64 1)))))]
def f12b12:AQ:=(.seq (.region f12r11) .ret)
def f12r13:LA:=[.mk none (.mov 4 (.v (.k (.c (.int .i64 3)))))]
def f12b14:AQ:=(.seq (.region f12r13) .ret)
def f12r15:LA:=[.mk none (.mov 4 (.v (.k (.c (.int .i64 15)))))]
def f12b16:AQ:=(.seq (.region f12r15) .ret)
def f12r17:LA:=[.mk none (.mov 4 (.v (.k (.c (.int .i64 2)))))]
def f12b18:AQ:=(.seq (.region f12r17) .ret)
def f12b19:AQ:=(.cond (.t 118) f12b18 .skip)
def f12r20:LA:=[.mk none (.faddr 119 13 (.t 3)),.mk none (.load 120 1 false (.t 119)),.mk none (.bin 121 .lss (.t 120) (.v (.k (.c (.int .i64 0))))),.mk none (.mov 122 (.t 121)),.mk (some (122,false)) (.faddr 123 13 (.t 3)),.mk (some (122,false)) (.load 124 1 false (.t 123)),.mk (some (122,false)) (.bin 125 .gtr (.t 124) (.v (.k (.c (.int .i64 7))))),.mk none (.pick 126 (.t 122) (.v (.k (.c (.bool true)))) (.t 125)),.mk none (.mov 127 (.t 126)),.mk (some (127,false)) (.faddr 128 13 (.t 3)),.mk (some (127,false)) (.load 129 1 false (.t 128)),.mk (some (127,false)) (.bin 130 .and (.t 129) (.v (.k (.c (.int .i64 4))))),.mk (some (127,false)) (.bin 131 .neq (.t 130) (.v (.k (.c (.int .i64 0))))),.mk (some (127,false)) (.mov 132 (.t 131)),.mk (some (132,true)) (.faddr 133 2 (.t 3)),.mk (some (132,true)) (.load 134 1 false (.t 133)),.mk (some (132,true)) (.bin 135 .eql (.t 134) (.v (.k (.c (.int .i64 (-1)))))),.mk (some (127,false)) (.pick 136 (.t 132) (.t 135) (.v (.k (.c (.bool false))))),.mk none (.pick 137 (.t 127) (.v (.k (.c (.bool true)))) (.t 136)),.mk none (.mov 138 (.t 137)),.mk (some (138,false)) (.load 139 15 true (.t 3)),.mk (some (138,false)) (.call (some 140) 39 [(.t 139)]),.mk (some (138,false)) (.un 141 .not (.t 140)),.mk none (.pick 142 (.t 138) (.v (.k (.c (.bool true)))) (.t 141)),.mk none (.mov 118 (.t 142))]
def f12b21:AQ:=(.seq (.region f12r20) f12b19)
def f12b22:AQ:=(.cond (.t 109) f12b16 f12b21)
def f12r23:LA:=[.mk none (.faddr 110 14 (.t 3)),.mk none (.load 111 1 false (.t 110)),.mk none (.bin 112 .lss (.t 111) (.v (.k (.c (.int .i64 1))))),.mk none (.mov 113 (.t 112)),.mk (some (113,false)) (.faddr 114 14 (.t 3)),.mk (some (113,false)) (.load 115 1 false (.t 114)),.mk (some (113,false)) (.bin 116 .gtr (.t 115) (.v (.k (.c (.int .i64 4))))),.mk none (.pick 117 (.t 113) (.v (.k (.c (.bool true)))) (.t 116)),.mk none (.mov 109 (.t 117))]
def f12b24:AQ:=(.seq (.region f12r23) f12b22)
def f12b25:AQ:=(.cond (.t 80) f12b14 f12b24)
def f12r26:LA:=[.mk none (.faddr 81 3 (.t 3)),.mk none (.load 82 1 false (.t 81)),.mk none (.bin 83 .lss (.t 82) (.v (.k (.c (.int .i64 1))))),.mk none (.mov 84 (.t 83)),.mk (some (84,false)) (.faddr 85 3 (.t 3)),.mk (some (84,false)) (.load 86 1 false (.t 85)),.mk (some (84,false)) (.bin 87 .gtr (.t 86) (.v (.k (.c (.int .i64 1099511627776))))),.mk none (.pick 88 (.t 84) (.v (.k (.c (.bool true)))) (.t 87)),.mk none (.mov 89 (.t 88)),.mk (some (89,false)) (.faddr 90 8 (.t 3)),.mk (some (89,false)) (.load 91 1 false (.t 90)),.mk (some (89,false)) (.bin 92 .lss (.t 91) (.v (.k (.c (.int .i64 0))))),.mk none (.pick 93 (.t 89) (.v (.k (.c (.bool true)))) (.t 92)),.mk none (.mov 94 (.t 93)),.mk (some (94,false)) (.faddr 95 8 (.t 3)),.mk (some (94,false)) (.load 96 1 false (.t 95)),.mk (some (94,false)) (.bin 97 .gtr (.t 96) (.v (.k (.c (.int .i64 100000))))),.mk none (.pick 98 (.t 94) (.v (.k (.c (.bool true)))) (.t 97)),.mk none (.mov 99 (.t 98)),.mk (some (99,false)) (.faddr 100 12 (.t 3)),.mk (some (99,false)) (.load 101 1 false (.t 100)),.mk (some (99,false)) (.bin 102 .lss (.t 101) (.v (.k (.c (.int .i64 0))))),.mk none (.pick 103 (.t 99) (.v (.k (.c (.bool true)))) (.t 102)),.mk none (.mov 104 (.t 103)),.mk (some (104,false)) (.faddr 105 12 (.t 3)),.mk (some (104,false)) (.load 106 1 false (.t 105)),.mk (some (104,false)) (.bin 107 .gtr (.t 106) (.v (.k (.c (.int .i64 1000))))),.mk none (.pick 108 (.t 104) (.v (.k (.c (.bool true)))) (.t 107)),.mk none (.mov 80 (.t 108))]
def f12b27:AQ:=(.seq (.region f12r26) f12b25)
def f12b28:AQ:=(.cond (.t 54) f12b12 f12b27)
def f12r29:LA:=[.mk none (.mov 55 (.t 8)),.mk none (.un 56 .not (.t 55)),.mk none (.mov 57 (.t 56)),.mk (some (57,false)) (.faddr 58 4 (.t 3)),.mk (some (57,false)) (.load 59 1 false (.t 58)),.mk (some (57,false)) (.faddr 60 0 (.t 2)),.mk (some (57,false)) (.load 61 1 false (.t 60)),.mk (some (57,false)) (.len 62 (.t 61)),.mk (some (57,false)) (.call (some 63) 38 [(.t 59),(.t 62)]),.mk (some (57,false)) (.un 64 .not (.t 63)),.mk none (.pick 65 (.t 57) (.v (.k (.c (.bool true)))) (.t 64)),.mk none (.mov 66 (.t 65)),.mk (some (66,false)) (.faddr 67 9 (.t 3)),.mk (some (66,false)) (.load 68 1 false (.t 67)),.mk (some (66,false)) (.mov 69 (.t 7)),.mk (some (66,false)) (.call (some 70) 38 [(.t 68),(.t 69)]),.mk (some (66,false)) (.un 71 .not (.t 70)),.mk none (.pick 72 (.t 66) (.v (.k (.c (.bool true)))) (.t 71)),.mk none (.mov 73 (.t 72)),.mk (some (73,false)) (.faddr 74 10 (.t 3)),.mk (some (73,false)) (.load 75 1 false (.t 74)),.mk (some (73,false)) (.mov 76 (.t 7)),.mk (some (73,false)) (.call (some 77) 38 [(.t 75),(.t 76)]),.mk (some (73,false)) (.un 78 .not (.t 77)),.mk none (.pick 79 (.t 73) (.v (.k (.c (.bool true)))) (.t 78)),.mk none (.mov 54 (.t 79))]
def f12b30:AQ:=(.seq (.region f12r29) f12b28)
def f12b31:AQ:=(.block 0 f12b30)
def f12b32:AQ:=(.seq f12b31 f12b10)
def f12r33:LA:=[.mk none (.faddr 22 0 (.t 3)),.mk none (.load 23 1 false (.t 22)),.mk none (.mov 24 (.t 6)),.mk none (.call (some 25) 38 [(.t 23),(.t 24)]),.mk none (.mov 26 (.t 25)),.mk (some (26,true)) (.faddr 27 1 (.t 3)),.mk (some (26,true)) (.load 28 1 false (.t 27)),.mk (some (26,true)) (.mov 29 (.t 6)),.mk (some (26,true)) (.call (some 30) 38 [(.t 28),(.t 29)]),.mk none (.pick 31 (.t 26) (.t 30) (.v (.k (.c (.bool false))))),.mk none (.mov 32 (.t 31)),.mk (some (32,true)) (.faddr 33 2 (.t 3)),.mk (some (32,true)) (.load 34 1 false (.t 33)),.mk (some (32,true)) (.bin 35 .eql (.t 34) (.v (.k (.c (.int .i64 (-1)))))),.mk (some (32,true)) (.mov 36 (.t 35)),.mk (some (36,false)) (.faddr 37 2 (.t 3)),.mk (some (36,false)) (.load 38 1 false (.t 37)),.mk (some (36,false)) (.mov 39 (.t 6)),.mk (some (36,false)) (.call (some 40) 38 [(.t 38),(.t 39)]),.mk (some (32,true)) (.pick 41 (.t 36) (.v (.k (.c (.bool true)))) (.t 40)),.mk none (.pick 42 (.t 32) (.t 41) (.v (.k (.c (.bool false))))),.mk none (.mov 43 (.t 42)),.mk (some (43,true)) (.faddr 44 11 (.t 3)),.mk (some (43,true)) (.load 45 1 false (.t 44)),.mk (some (43,true)) (.bin 46 .eql (.t 45) (.v (.k (.c (.int .i64 (-1)))))),.mk (some (43,true)) (.mov 47 (.t 46)),.mk (some (47,false)) (.faddr 48 11 (.t 3)),.mk (some (47,false)) (.load 49 1 false (.t 48)),.mk (some (47,false)) (.mov 50 (.t 6)),.mk (some (47,false)) (.call (some 51) 38 [(.t 49),(.t 50)]),.mk (some (43,true)) (.pick 52 (.t 47) (.v (.k (.c (.bool true)))) (.t 51)),.mk none (.pick 53 (.t 43) (.t 52) (.v (.k (.c (.bool false))))),.mk none (.mov 8 (.t 53))]
def f12b34:AQ:=(.seq (.region f12r33) f12b32)
def f12r35:LA:=[.mk none (.faddr 16 3 (.t 2)),.mk none (.load 17 1 false (.t 16)),.mk none (.len 18 (.t 17)),.mk none (.faddr 19 1 (.t 2)),.mk none (.load 20 1 false (.t 19)),.mk none (.len 21 (.t 20)),.mk none (.mov 6 (.t 18)),.mk none (.mov 7 (.t 21))]
def f12b36:AQ:=(.seq (.draw f12r35 [[],[0],[1],[],[3],[4],[2,0,1,2],[5,6,0,1,2,3,4,5,6]]) f12b34)
def f12r37:LA:=[.mk none (.mov 15 (.t 5)),.mk none (.mov 4 (.t 15))]
def f12b38:AQ:=(.seq (.region f12r37) .ret)
def f12b39:AQ:=(.cond (.t 14) f12b38 .skip)
def f12r40:LA:=[.mk none (.mov 13 (.t 5)),.mk none (.bin 14 .neq (.t 13) (.v (.k (.c (.int .i64 0)))))]
def f12b41:AQ:=(.seq (.region f12r40) f12b39)
def f12r42:LA:=[.mk none (.load 11 8 true (.t 2)),.mk none (.call (some 12) 37 [(.t 11)]),.mk none (.mov 5 (.t 12))]
def f12b43:AQ:=(.seq (.region f12r42) f12b41)
def f12b44:AQ:=(.seq f12b43 f12b36)
def f12r45:LA:=[.mk none (.box 2 31 (.t 0)),.mk none (.box 3 35 (.t 1)),.mk none (.mov 4 (.v (.k (.c (.int .i64 0)))))]
def f12b46:AQ:=(.seq (.region f12r45) f12b44)
def f12:AQ:=f12b46
theorem hf12:zH Tryz.prog 12=some ⟨157,f12.erase,[(RX.t 4)]⟩:=by kernel_rfl
theorem okf12:f12.ok=true:=by kernel_rfl
def f37r1:LA:=[.mk none (.load 64 8 true (.t 1)),.mk none (.call (some 65) 84 [(.t 64)]),.mk none (.mov 2 (.t 65))]
def f37b2:AQ:=(.seq (.region f37r1) .ret)
def f37r3:LA:=[.mk none (.mov 63 (.t 12)),.mk none (.mov 2 (.t 63))]
def f37b4:AQ:=(.seq (.region f37r3) .ret)
def f37b5:AQ:=(.cond (.t 62) f37b4 .skip)
def f37r6:LA:=[.mk none (.mov 61 (.t 12)),.mk none (.bin 62 .neq (.t 61) (.v (.k (.c (.int .i64 0)))))]
def f37b7:AQ:=(.seq (.region f37r6) f37b5)
def f37r8:LA:=[.mk none (.load 59 8 true (.t 1)),.mk none (.call (some 60) 83 [(.t 59)]),.mk none (.mov 12 (.t 60))]
def f37b9:AQ:=(.seq (.region f37r8) f37b7)
def f37b10:AQ:=(.seq f37b9 f37b2)
def f37r11:LA:=[.mk none (.mov 58 (.t 11)),.mk none (.mov 2 (.t 58))]
def f37b12:AQ:=(.seq (.region f37r11) .ret)
def f37b13:AQ:=(.cond (.t 57) f37b12 .skip)
def f37r14:LA:=[.mk none (.mov 56 (.t 11)),.mk none (.bin 57 .neq (.t 56) (.v (.k (.c (.int .i64 0)))))]
def f37b15:AQ:=(.seq (.region f37r14) f37b13)
def f37r16:LA:=[.mk none (.mov 53 (.t 5)),.mk none (.mkfn 54 81 [(.t 1)]),.mk none (.call (some 55) 75 [(.t 53),(.v (.k (.c (.int .i64 20)))),(.t 54)]),.mk none (.mov 11 (.t 55))]
def f37b17:AQ:=(.seq (.region f37r16) f37b15)
def f37b18:AQ:=(.seq f37b17 f37b10)
def f37r19:LA:=[.mk none (.mov 52 (.t 10)),.mk none (.mov 2 (.t 52))]
def f37b20:AQ:=(.seq (.region f37r19) .ret)
def f37b21:AQ:=(.cond (.t 51) f37b20 .skip)
def f37r22:LA:=[.mk none (.mov 50 (.t 10)),.mk none (.bin 51 .neq (.t 50) (.v (.k (.c (.int .i64 0)))))]
def f37b23:AQ:=(.seq (.region f37r22) f37b21)
def f37r24:LA:=[.mk none (.mov 47 (.t 4)),.mk none (.mkfn 48 80 [(.t 1)]),.mk none (.call (some 49) 75 [(.t 47),(.v (.k (.c (.int .i64 200)))),(.t 48)]),.mk none (.mov 10 (.t 49))]
def f37b25:AQ:=(.seq (.region f37r24) f37b23)
def f37b26:AQ:=(.seq f37b25 f37b18)
def f37r27:LA:=[.mk none (.bin 46 .add (.t 38) (.v (.k (.c (.int .i64 1))))),.mk none (.mov 38 (.t 46))]
def f37r28:LA:=[.mk none (.mov 2 (.v (.k (.c (.int .i64 1)))))]
def f37b29:AQ:=(.seq (.region f37r28) .ret)
def f37b30:AQ:=(.cond (.t 45) f37b29 .skip)
def f37r31:LA:=[.mk none (.faddr 42 0 (.t 9)),.mk none (.load 43 1 false (.t 42)),.mk none (.call (some 44) 79 [(.t 43),(.v (.k (.c (.int .i64 10))))]),.mk none (.un 45 .not (.t 44))]
def f37b32:AQ:=(.seq (.region f37r31) f37b30)
def f37r33:LA:=[.mk none (.iaddr 40 1 (.t 36) (.t 38)),.mk none (.load 41 1 true (.t 40)),.mk none (.alloc 9 98 [(.int .i64 0)]),.mk none (.store 1 (.t 9) (.t 41))]
def f37b34:AQ:=(.seq (.region f37r33) f37b32)
def f37b35:AQ:=(.block 1 f37b34)
def f37b36:AQ:=(.seq f37b35 (.region f37r27))
def f37b37:AQ:=(.cond (.t 39) .skip (.exit 0))
def f37b38:AQ:=(.seq f37b37 f37b36)
def f37r39:LA:=[.mk none (.bin 39 .lss (.t 38) (.t 37))]
def f37b40:AQ:=(.seq (.region f37r39) f37b38)
def f37l41:AQ:=.loop [1,4,5,36,37,38] [1,15,16000,16001,16002] f37b40
def f37b42:AQ:=(.block 0 f37l41)
def f37r43:LA:=[.mk none (.faddr 35 2 (.t 1)),.mk none (.load 36 1 false (.t 35)),.mk none (.len 37 (.t 36)),.mk none (.mov 38 (.v (.k (.c (.int .i64 0)))))]
def f37b44:AQ:=(.seq (.region f37r43) f37b42)
def f37b45:AQ:=(.seq f37b44 f37b26)
def f37r46:LA:=[.mk none (.mov 2 (.v (.k (.c (.int .i64 6)))))]
def f37b47:AQ:=(.seq (.region f37r46) .ret)
def f37b48:AQ:=(.cond (.t 34) f37b47 .skip)
def f37r49:LA:=[.mk none (.faddr 31 2 (.t 1)),.mk none (.load 32 1 false (.t 31)),.mk none (.len 33 (.t 32)),.mk none (.bin 34 .gtr (.t 33) (.v (.k (.c (.int .i64 20)))))]
def f37b50:AQ:=(.seq (.region f37r49) f37b48)
def f37b51:AQ:=(.seq f37b50 f37b45)
def f37r52:LA:=[.mk none (.mov 30 (.t 7)),.mk none (.mov 2 (.t 30))]
def f37b53:AQ:=(.seq (.region f37r52) .ret)
def f37b54:AQ:=(.cond (.t 29) f37b53 .skip)
def f37r55:LA:=[.mk none (.mov 28 (.t 7)),.mk none (.bin 29 .neq (.t 28) (.v (.k (.c (.int .i64 0)))))]
def f37b56:AQ:=(.seq (.region f37r55) f37b54)
def f37r57:LA:=[.mk none (.mov 25 (.t 3)),.mk none (.mkfn 26 77 [(.t 1)]),.mk none (.call (some 27) 75 [(.t 25),(.v (.k (.c (.int .i64 40)))),(.t 26)]),.mk none (.mov 7 (.t 27))]
def f37b58:AQ:=(.seq (.region f37r57) f37b56)
def f37b59:AQ:=(.seq f37b58 f37b51)
def f37r60:LA:=[.mk none (.mov 24 (.t 6)),.mk none (.mov 2 (.t 24))]
def f37b61:AQ:=(.seq (.region f37r60) .ret)
def f37b62:AQ:=(.cond (.t 23) f37b61 .skip)
def f37r63:LA:=[.mk none (.mov 22 (.t 6)),.mk none (.bin 23 .neq (.t 22) (.v (.k (.c (.int .i64 0)))))]
def f37b64:AQ:=(.seq (.region f37r63) f37b62)
def f37r65:LA:=[.mk none (.faddr 19 0 (.t 1)),.mk none (.load 20 1 false (.t 19)),.mk none (.call (some 21) 75 [(.t 20),(.v (.k (.c (.int .i64 8)))),(.v (.k (.c (.fn 76 []))))]),.mk none (.mov 6 (.t 21))]
def f37b66:AQ:=(.seq (.region f37r65) f37b64)
def f37b67:AQ:=(.seq f37b66 f37b59)
def f37r68:LA:=[.mk none (.load 14 8 true (.t 1)),.mk none (.call (some 15) 74 [(.t 14)]),.mk none (.mov 13 (.t 15)),.mk none (.extr 16 (.t 13) 0),.mk none (.extr 17 (.t 13) 1),.mk none (.extr 18 (.t 13) 2),.mk none (.mov 3 (.t 16)),.mk none (.mov 4 (.t 17)),.mk none (.mov 5 (.t 18))]
def f37b69:AQ:=(.seq (.region f37r68) f37b67)
def f37r70:LA:=[.mk none (.box 1 31 (.t 0)),.mk none (.mov 2 (.v (.k (.c (.int .i64 0)))))]
def f37b71:AQ:=(.seq (.region f37r70) (.frz 1 f37b69))
def f37:AQ:=f37b71
theorem hf37:zH Tryz.prog 37=some ⟨66,f37.erase,[(RX.t 2)]⟩:=by kernel_rfl
theorem okf37:f37.ok=true:=by kernel_rfl
def f38r1:LA:=[.mk none (.mov 5 (.t 0)),.mk none (.bin 6 .geq (.t 5) (.v (.k (.c (.int .i64 0))))),.mk none (.mov 7 (.t 6)),.mk (some (7,true)) (.mov 8 (.t 0)),.mk (some (7,true)) (.mov 9 (.t 1)),.mk (some (7,true)) (.bin 10 .lss (.t 8) (.t 9)),.mk none (.pick 11 (.t 7) (.t 10) (.v (.k (.c (.bool false))))),.mk none (.mov 4 (.t 11))]
def f38b2:AQ:=(.seq (.region f38r1) .ret)
def f38r3:LA:=[.mk none (.mov 4 (.v (.k (.c (.bool false)))))]
def f38b4:AQ:=(.seq (.region f38r3) f38b2)
def f38:AQ:=f38b4
theorem hf38:zH Tryz.prog 38=some ⟨12,f38.erase,[(RX.t 4)]⟩:=by kernel_rfl
theorem okf38:f38.ok=true:=by kernel_rfl
def f39r1:LA:=[.mk none (.mov 2 (.v (.k (.c (.bool false)))))]
def f39b2:AQ:=(.seq (.region f39r1) .ret)
def f39r3:LA:=[.mk none (.faddr 11 1 (.t 3)),.mk none (.load 12 1 false (.t 11)),.mk none (.bin 13 .eql (.t 12) (.v (.k (.c (.int .i64 0))))),.mk none (.mov 14 (.t 13)),.mk (some (14,true)) (.faddr 15 2 (.t 3)),.mk (some (14,true)) (.load 16 1 false (.t 15)),.mk (some (14,true)) (.bin 17 .eql (.t 16) (.v (.k (.c (.int .i64 0))))),.mk none (.pick 18 (.t 14) (.t 17) (.v (.k (.c (.bool false))))),.mk none (.mov 2 (.t 18))]
def f39b4:AQ:=(.seq (.region f39r3) .ret)
def f39r5:LA:=[.mk none (.faddr 22 1 (.t 3)),.mk none (.load 23 1 false (.t 22)),.mk none (.bin 24 .geq (.t 23) (.v (.k (.c (.int .i64 1))))),.mk none (.mov 25 (.t 24)),.mk (some (25,true)) (.faddr 26 1 (.t 3)),.mk (some (25,true)) (.load 27 1 false (.t 26)),.mk (some (25,true)) (.bin 28 .leq (.t 27) (.v (.k (.c (.int .i64 400))))),.mk none (.pick 29 (.t 25) (.t 28) (.v (.k (.c (.bool false))))),.mk none (.mov 30 (.t 29)),.mk (some (30,true)) (.faddr 31 2 (.t 3)),.mk (some (30,true)) (.load 32 1 false (.t 31)),.mk (some (30,true)) (.bin 33 .eql (.t 32) (.v (.k (.c (.int .i64 0))))),.mk (some (30,true)) (.mov 34 (.t 33)),.mk (some (34,false)) (.faddr 35 2 (.t 3)),.mk (some (34,false)) (.load 36 1 false (.t 35)),.mk (some (34,false)) (.bin 37 .eql (.t 36) (.v (.k (.c (.int .i64 1))))),.mk (some (30,true)) (.pick 38 (.t 34) (.v (.k (.c (.bool true)))) (.t 37)),.mk none (.pick 39 (.t 30) (.t 38) (.v (.k (.c (.bool false))))),.mk none (.mov 2 (.t 39))]
def f39b6:AQ:=(.seq (.region f39r5) .ret)
def f39r7:LA:=[.mk none (.faddr 42 1 (.t 3)),.mk none (.load 43 1 false (.t 42)),.mk none (.faddr 44 8 (.t 1)),.mk none (.load 45 1 false (.t 44)),.mk none (.bin 46 .geq (.t 43) (.t 45)),.mk none (.mov 47 (.t 46)),.mk (some (47,true)) (.faddr 48 1 (.t 3)),.mk (some (47,true)) (.load 49 1 false (.t 48)),.mk (some (47,true)) (.bin 50 .leq (.t 49) (.v (.k (.c (.int .i64 100000))))),.mk none (.pick 51 (.t 47) (.t 50) (.v (.k (.c (.bool false))))),.mk none (.mov 52 (.t 51)),.mk (some (52,true)) (.faddr 53 2 (.t 3)),.mk (some (52,true)) (.load 54 1 false (.t 53)),.mk (some (52,true)) (.bin 55 .eql (.t 54) (.v (.k (.c (.int .i64 0))))),.mk none (.pick 56 (.t 52) (.t 55) (.v (.k (.c (.bool false))))),.mk none (.mov 2 (.t 56))]
def f39b8:AQ:=(.seq (.region f39r7) .ret)
def f39b9:AQ:=(.cond (.t 40) f39b8 .skip)
def f39r10:LA:=[.mk none (.bin 41 .eql (.t 7) (.v (.k (.c (.int .i64 3))))),.mk none (.mov 40 (.t 41))]
def f39b11:AQ:=(.seq (.region f39r10) f39b9)
def f39b12:AQ:=(.cond (.t 19) f39b6 f39b11)
def f39r13:LA:=[.mk none (.bin 21 .eql (.t 7) (.v (.k (.c (.int .i64 2))))),.mk none (.mov 19 (.t 21))]
def f39b14:AQ:=(.cond (.t 19) .skip (.region f39r13))
def f39r15:LA:=[.mk none (.bin 20 .eql (.t 7) (.v (.k (.c (.int .i64 1))))),.mk none (.mov 19 (.t 20))]
def f39b16:AQ:=(.seq (.region f39r15) f39b14)
def f39b17:AQ:=(.seq f39b16 f39b12)
def f39b18:AQ:=(.cond (.t 8) f39b4 f39b17)
def f39r19:LA:=[.mk none (.bin 10 .eql (.t 7) (.v (.k (.c (.int .i64 4))))),.mk none (.mov 8 (.t 10))]
def f39b20:AQ:=(.cond (.t 8) .skip (.region f39r19))
def f39r21:LA:=[.mk none (.bin 9 .eql (.t 7) (.v (.k (.c (.int .i64 0))))),.mk none (.mov 8 (.t 9))]
def f39b22:AQ:=(.seq (.region f39r21) f39b20)
def f39b23:AQ:=(.seq f39b22 f39b18)
def f39b24:AQ:=(.block 0 f39b23)
def f39r25:LA:=[.mk none (.faddr 6 0 (.t 3)),.mk none (.load 7 1 false (.t 6))]
def f39b26:AQ:=(.seq (.region f39r25) f39b24)
def f39b27:AQ:=(.seq f39b26 f39b2)
def f39r28:LA:=[.mk none (.faddr 4 5 (.t 1)),.mk none (.load 5 3 true (.t 4)),.mk none (.alloc 3 33 [(.int .i64 0),(.int .i64 0),(.int .i64 0)]),.mk none (.store 3 (.t 3) (.t 5))]
def f39b29:AQ:=(.seq (.region f39r28) f39b27)
def f39r30:LA:=[.mk none (.box 1 35 (.t 0)),.mk none (.mov 2 (.v (.k (.c (.bool false)))))]
def f39b31:AQ:=(.seq (.region f39r30) f39b29)
def f39:AQ:=f39b31
theorem hf39:zH Tryz.prog 39=some ⟨57,f39.erase,[(RX.t 2)]⟩:=by kernel_rfl
theorem okf39:f39.ok=true:=by kernel_rfl
def f40r1:LA:=[.mk none (.mov 6 (.v (.k (.c (.int .i64 0))))),.mk none (.mov 7 (.v (.k (.c (.int .i64 4)))))]
def f40b2:AQ:=(.seq (.region f40r1) .ret)
def f40r3:LA:=[.mk none (.bin 29 .add (.t 13) (.v (.k (.c (.int .i64 1))))),.mk none (.mov 13 (.t 29))]
def f40r4:LA:=[.mk none (.faddr 27 2 (.t 9)),.mk none (.load 28 1 false (.t 27)),.mk none (.mov 6 (.t 28)),.mk none (.mov 7 (.v (.k (.c (.int .i64 0)))))]
def f40b5:AQ:=(.seq (.region f40r4) .ret)
def f40b6:AQ:=(.cond (.t 26) f40b5 .skip)
def f40r7:LA:=[.mk none (.faddr 17 0 (.t 9)),.mk none (.load 18 1 false (.t 17)),.mk none (.mov 19 (.t 1)),.mk none (.bin 20 .eql (.t 18) (.t 19)),.mk none (.mov 21 (.t 20)),.mk (some (21,true)) (.faddr 22 1 (.t 9)),.mk (some (21,true)) (.load 23 1 false (.t 22)),.mk (some (21,true)) (.mov 24 (.t 2)),.mk (some (21,true)) (.bin 25 .eql (.t 23) (.t 24)),.mk none (.pick 26 (.t 21) (.t 25) (.v (.k (.c (.bool false)))))]
def f40b8:AQ:=(.seq (.region f40r7) f40b6)
def f40r9:LA:=[.mk none (.iaddr 15 3 (.t 11) (.t 13)),.mk none (.load 16 3 true (.t 15)),.mk none (.alloc 9 116 [(.int .i64 0),(.int .i64 0),(.int .i64 0)]),.mk none (.store 3 (.t 9) (.t 16))]
def f40b10:AQ:=(.seq (.region f40r9) f40b8)
def f40b11:AQ:=(.block 1 f40b10)
def f40b12:AQ:=(.seq f40b11 (.region f40r3))
def f40b13:AQ:=(.cond (.t 14) .skip (.exit 0))
def f40b14:AQ:=(.seq f40b13 f40b12)
def f40r15:LA:=[.mk none (.bin 14 .lss (.t 13) (.t 12))]
def f40b16:AQ:=(.seq (.region f40r15) f40b14)
def f40l17:AQ:=.loop [1,2,11,12,13] [] f40b16
def f40b18:AQ:=(.block 0 f40l17)
def f40r19:LA:=[.mk none (.faddr 10 5 (.t 3)),.mk none (.load 11 1 false (.t 10)),.mk none (.len 12 (.t 11)),.mk none (.mov 13 (.v (.k (.c (.int .i64 0)))))]
def f40b20:AQ:=(.seq (.region f40r19) f40b18)
def f40b21:AQ:=(.seq f40b20 f40b2)
def f40r22:LA:=[.mk none (.box 3 31 (.t 0)),.mk none (.mov 6 (.v (.k (.c (.int .i64 0))))),.mk none (.mov 7 (.v (.k (.c (.int .i64 0)))))]
def f40b23:AQ:=(.seq (.region f40r22) f40b21)
def f40:AQ:=f40b23
theorem hf40:zH Tryz.prog 40=some ⟨30,f40.erase,[(RX.t 6),(RX.t 7)]⟩:=by kernel_rfl
theorem okf40:f40.ok=true:=by kernel_rfl
def f46r1:LA:=[.mk none (.mov 6 (.v (.k (.c (.int .i64 0))))),.mk none (.mov 7 (.v (.k (.c (.int .i64 4)))))]
def f46b2:AQ:=(.seq (.region f46r1) .ret)
def f46r3:LA:=[.mk none (.mov 14 (.t 8)),.mk none (.bin 15 .add (.t 14) (.v (.k (.c (.int .i64 1))))),.mk none (.mov 8 (.t 15))]
def f46r4:LA:=[.mk none (.faddr 34 5 (.t 3)),.mk none (.load 35 1 false (.t 34)),.mk none (.mov 36 (.t 8)),.mk none (.iaddr 37 3 (.t 35) (.t 36)),.mk none (.faddr 38 2 (.t 37)),.mk none (.load 39 1 false (.t 38)),.mk none (.mov 6 (.t 39)),.mk none (.mov 7 (.v (.k (.c (.int .i64 0)))))]
def f46b5:AQ:=(.seq (.region f46r4) .ret)
def f46b6:AQ:=(.cond (.t 33) f46b5 .skip)
def f46r7:LA:=[.mk none (.faddr 16 5 (.t 3)),.mk none (.load 17 1 false (.t 16)),.mk none (.mov 18 (.t 8)),.mk none (.iaddr 19 3 (.t 17) (.t 18)),.mk none (.faddr 20 0 (.t 19)),.mk none (.load 21 1 false (.t 20)),.mk none (.mov 22 (.t 1)),.mk none (.bin 23 .eql (.t 21) (.t 22)),.mk none (.mov 24 (.t 23)),.mk (some (24,true)) (.faddr 25 5 (.t 3)),.mk (some (24,true)) (.load 26 1 false (.t 25)),.mk (some (24,true)) (.mov 27 (.t 8)),.mk (some (24,true)) (.iaddr 28 3 (.t 26) (.t 27)),.mk (some (24,true)) (.faddr 29 1 (.t 28)),.mk (some (24,true)) (.load 30 1 false (.t 29)),.mk (some (24,true)) (.mov 31 (.t 2)),.mk (some (24,true)) (.bin 32 .eql (.t 30) (.t 31)),.mk none (.pick 33 (.t 24) (.t 32) (.v (.k (.c (.bool false)))))]
def f46b8:AQ:=(.seq (.region f46r7) f46b6)
def f46b9:AQ:=(.block 1 f46b8)
def f46b10:AQ:=(.seq f46b9 (.region f46r3))
def f46b11:AQ:=(.cond (.t 13) .skip (.exit 0))
def f46r12:LA:=[.mk none (.mov 9 (.t 8)),.mk none (.faddr 10 5 (.t 3)),.mk none (.load 11 1 false (.t 10)),.mk none (.len 12 (.t 11)),.mk none (.bin 13 .lss (.t 9) (.t 12))]
def f46b13:AQ:=(.seq (.region f46r12) f46b11)
def f46b14:AQ:=(.seq f46b13 f46b10)
def f46l15:AQ:=.loop [1,2,3,8] [3] f46b14
def f46b16:AQ:=(.block 0 f46l15)
def f46r17:LA:=[.mk none (.mov 8 (.v (.k (.c (.int .i64 0)))))]
def f46b18:AQ:=(.seq (.region f46r17) f46b16)
def f46b19:AQ:=(.seq f46b18 f46b2)
def f46r20:LA:=[.mk none (.box 3 31 (.t 0)),.mk none (.mov 6 (.v (.k (.c (.int .i64 0))))),.mk none (.mov 7 (.v (.k (.c (.int .i64 0)))))]
def f46b21:AQ:=(.seq (.region f46r20) f46b19)
def f46:AQ:=f46b21
theorem hf46:zH Tryz.prog 46=some ⟨40,f46.erase,[(RX.t 6),(RX.t 7)]⟩:=by kernel_rfl
theorem okf46:f46.ok=true:=by kernel_rfl
def f47r1:LA:=[.mk none (.mov 6 (.t 1)),.mk none (.call (some 7) 49 [(.t 6),(.v (.k (.c (.str [32]))))]),.mk none (.bin 8 .add (.t 7) (.v (.k (.c (.str [10]))))),.mk none (.call (some 9) 48 [(.t 2),(.t 8)])]
def f47b2:AQ:=(.cond (.t 5) (.region f47r1) .skip)
def f47r3:LA:=[.mk none (.mov 5 (.t 0))]
def f47b4:AQ:=(.seq (.region f47r3) f47b2)
def f47:AQ:=f47b4
theorem hf47:zH Tryz.prog 47=some ⟨10,f47.erase,[]⟩:=by kernel_rfl
theorem okf47:f47.ok=true:=by kernel_rfl
def f50r1:LA:=[.mk none (.mov 14 (.t 2)),.mk none (.mov 7 (.t 14))]
def f50b2:AQ:=(.seq (.region f50r1) .ret)
def f50r3:LA:=[.mk none (.mov 13 (.t 1)),.mk none (.mov 7 (.t 13))]
def f50b4:AQ:=(.seq (.region f50r3) .ret)
def f50b5:AQ:=(.cond (.t 12) f50b4 .skip)
def f50r6:LA:=[.mk none (.faddr 8 13 (.t 3)),.mk none (.load 9 1 false (.t 8)),.mk none (.mov 10 (.t 0)),.mk none (.bin 11 .and (.t 9) (.t 10)),.mk none (.bin 12 .neq (.t 11) (.v (.k (.c (.int .i64 0)))))]
def f50b7:AQ:=(.seq (.region f50r6) f50b5)
def f50b8:AQ:=(.seq f50b7 f50b2)
def f50r9:LA:=[.mk none (.mov 7 (.v (.k (.c (.str [])))))]
def f50b10:AQ:=(.seq (.region f50r9) f50b8)
def f50:AQ:=f50b10
theorem hf50:zH Tryz.prog 50=some ⟨15,f50.erase,[(RX.t 7)]⟩:=by kernel_rfl
theorem okf50:f50.ok=true:=by kernel_rfl
def f52r1:LA:=[.mk none (.mov 14 (.t 3)),.mk none (.call (some 15) 51 [(.t 14)]),.mk none (.bin 16 .add (.t 15) (.v (.k (.c (.str [45]))))),.mk none (.mov 17 (.t 4)),.mk none (.call (some 18) 51 [(.t 17)]),.mk none (.bin 19 .add (.t 16) (.t 18)),.mk none (.bin 20 .add (.t 19) (.v (.k (.c (.str [45]))))),.mk none (.mov 21 (.t 5)),.mk none (.call (some 22) 51 [(.t 21)]),.mk none (.bin 23 .add (.t 20) (.t 22)),.mk none (.mov 2 (.t 23))]
def f52b2:AQ:=(.seq (.region f52r1) .ret)
def f52r3:LA:=[.mk none (.mov 8 (.t 0)),.mk none (.call (some 9) 93 [(.t 8)]),.mk none (.mov 7 (.t 9)),.mk none (.extr 10 (.t 7) 0),.mk none (.extr 11 (.t 7) 1),.mk none (.extr 12 (.t 7) 2),.mk none (.extr 13 (.t 7) 3),.mk none (.mov 3 (.t 10)),.mk none (.mov 4 (.t 11)),.mk none (.mov 5 (.t 12)),.mk none (.mov 6 (.t 13))]
def f52b4:AQ:=(.seq (.region f52r3) f52b2)
def f52r5:LA:=[.mk none (.mov 2 (.v (.k (.c (.str [])))))]
def f52b6:AQ:=(.seq (.region f52r5) f52b4)
def f52:AQ:=f52b6
theorem hf52:zH Tryz.prog 52=some ⟨24,f52.erase,[(RX.t 2)]⟩:=by kernel_rfl
theorem okf52:f52.ok=true:=by kernel_rfl
def f53r1:LA:=[.mk none (.faddr 23 1 (.t 1)),.mk none (.load 24 1 false (.t 23)),.mk none (.call (some 25) 51 [(.t 24)]),.mk none (.bin 26 .add (.v (.k (.c (.str [112,97,121,32])))) (.t 25)),.mk none (.mov 27 (.t 3)),.mk none (.bin 28 .add (.t 26) (.t 27)),.mk none (.bin 29 .add (.t 28) (.v (.k (.c (.str [32,97,102,116,101,114]))))),.mk none (.mov 30 (.t 4)),.mk none (.bin 31 .add (.t 29) (.t 30)),.mk none (.mov 2 (.t 31))]
def f53b2:AQ:=(.seq (.region f53r1) .ret)
def f53r3:LA:=[.mk none (.mov 2 (.v (.k (.c (.str [112,97,121,32,97,116,32,115,105,103,104,116])))))]
def f53b4:AQ:=(.seq (.region f53r3) .ret)
def f53r5:LA:=[.mk none (.faddr 17 1 (.t 1)),.mk none (.load 18 1 false (.t 17)),.mk none (.call (some 19) 52 [(.t 18)]),.mk none (.bin 20 .add (.v (.k (.c (.str [112,97,121,32,111,110,32])))) (.t 19)),.mk none (.mov 2 (.t 20))]
def f53b6:AQ:=(.seq (.region f53r5) .ret)
def f53r7:LA:=[.mk none (.mov 2 (.v (.k (.c (.str [112,97,121,32,97,116,32,117,115,97,110,99,101])))))]
def f53b8:AQ:=(.seq (.region f53r7) .ret)
def f53b9:AQ:=(.cond (.t 21) f53b8 .skip)
def f53r10:LA:=[.mk none (.bin 22 .eql (.t 12) (.v (.k (.c (.int .i64 4))))),.mk none (.mov 21 (.t 22))]
def f53b11:AQ:=(.seq (.region f53r10) f53b9)
def f53b12:AQ:=(.cond (.t 15) f53b6 f53b11)
def f53r13:LA:=[.mk none (.bin 16 .eql (.t 12) (.v (.k (.c (.int .i64 3))))),.mk none (.mov 15 (.t 16))]
def f53b14:AQ:=(.seq (.region f53r13) f53b12)
def f53b15:AQ:=(.cond (.t 13) f53b4 f53b14)
def f53r16:LA:=[.mk none (.bin 14 .eql (.t 12) (.v (.k (.c (.int .i64 0))))),.mk none (.mov 13 (.t 14))]
def f53b17:AQ:=(.seq (.region f53r16) f53b15)
def f53b18:AQ:=(.block 0 f53b17)
def f53r19:LA:=[.mk none (.faddr 11 0 (.t 1)),.mk none (.load 12 1 false (.t 11))]
def f53b20:AQ:=(.seq (.region f53r19) f53b18)
def f53b21:AQ:=(.seq f53b20 f53b2)
def f53r22:LA:=[.mk none (.mov 4 (.v (.k (.c (.str [32,100,97,116,101])))))]
def f53b23:AQ:=(.cond (.t 10) (.region f53r22) .skip)
def f53r24:LA:=[.mk none (.faddr 8 0 (.t 1)),.mk none (.load 9 1 false (.t 8)),.mk none (.bin 10 .eql (.t 9) (.v (.k (.c (.int .i64 2)))))]
def f53b25:AQ:=(.seq (.region f53r24) f53b23)
def f53b26:AQ:=(.seq f53b25 f53b21)
def f53r27:LA:=[.mk none (.mov 3 (.v (.k (.c (.str [32,109,111,110,116,104,115])))))]
def f53b28:AQ:=(.cond (.t 7) (.region f53r27) .skip)
def f53r29:LA:=[.mk none (.faddr 5 2 (.t 1)),.mk none (.load 6 1 false (.t 5)),.mk none (.bin 7 .eql (.t 6) (.v (.k (.c (.int .i64 1)))))]
def f53b30:AQ:=(.seq (.region f53r29) f53b28)
def f53b31:AQ:=(.seq f53b30 f53b26)
def f53r32:LA:=[.mk none (.mov 3 (.v (.k (.c (.str [32,100,97,121,115]))))),.mk none (.mov 4 (.v (.k (.c (.str [32,115,105,103,104,116])))))]
def f53b33:AQ:=(.seq (.region f53r32) f53b31)
def f53r34:LA:=[.mk none (.box 1 33 (.t 0)),.mk none (.mov 2 (.v (.k (.c (.str [])))))]
def f53b35:AQ:=(.seq (.region f53r34) f53b33)
def f53:AQ:=f53b35
theorem hf53:zH Tryz.prog 53=some ⟨32,f53.erase,[(RX.t 2)]⟩:=by kernel_rfl
theorem okf53:f53.ok=true:=by kernel_rfl
def f54r1:LA:=[.mk none (.mov 21 (.t 5)),.mk none (.call (some 22) 49 [(.t 21),(.v (.k (.c (.str [32,111,114,32]))))]),.mk none (.mov 4 (.t 22))]
def f54b2:AQ:=(.seq (.region f54r1) .ret)
def f54r3:LA:=[.mk none (.bin 20 .add (.t 8) (.v (.k (.c (.int .i64 1))))),.mk none (.mov 8 (.t 20))]
def f54r4:LA:=[.mk none (.mov 14 (.t 5)),.mk none (.mov 15 (.t 6)),.mk none (.bin 16 .add (.t 15) (.v (.k (.c (.int .i64 1))))),.mk none (.call (some 17) 51 [(.t 16)]),.mk none (.bslice 18 9 1 [(.str [])] 1 [(0,(.t 17))]),.mk none (.append 19 9 1 16 (.t 14) (.t 18)),.mk none (.mov 5 (.t 19))]
def f54b5:AQ:=(.cond (.t 13) (.region f54r4) .skip)
def f54r6:LA:=[.mk none (.mov 11 (.t 6)),.mk none (.mov 12 (.t 1)),.mk none (.bin 13 .neq (.t 11) (.t 12))]
def f54b7:AQ:=(.seq (.region f54r6) f54b5)
def f54r8:LA:=[.mk none (.mov 10 (.t 8)),.mk none (.mov 6 (.t 10))]
def f54b9:AQ:=(.seq (.region f54r8) f54b7)
def f54b10:AQ:=(.block 1 f54b9)
def f54b11:AQ:=(.seq f54b10 (.region f54r3))
def f54b12:AQ:=(.cond (.t 9) .skip (.exit 0))
def f54b13:AQ:=(.seq f54b12 f54b11)
def f54r14:LA:=[.mk none (.bin 9 .lss (.t 8) (.t 7))]
def f54b15:AQ:=(.seq (.region f54r14) f54b13)
def f54l16:AQ:=.loop [1,5,7,8] [5,19] f54b15
def f54b17:AQ:=(.block 0 f54l16)
def f54r18:LA:=[.mk none (.mov 7 (.t 0)),.mk none (.mov 8 (.v (.k (.c (.int .i64 0)))))]
def f54b19:AQ:=(.seq (.region f54r18) f54b17)
def f54b20:AQ:=(.seq f54b19 f54b2)
def f54r21:LA:=[.mk none (.nilL 5 9 1)]
def f54b22:AQ:=(.seq (.region f54r21) f54b20)
def f54r23:LA:=[.mk none (.mov 4 (.v (.k (.c (.str [])))))]
def f54b24:AQ:=(.seq (.region f54r23) f54b22)
def f54:AQ:=f54b24
theorem hf54:zH Tryz.prog 54=some ⟨23,f54.erase,[(RX.t 4)]⟩:=by kernel_rfl
theorem okf54:f54.ok=true:=by kernel_rfl
def f67r1:LA:=[.mk none (.faddr 5 1 (.t 2)),.mk none (.load 6 1 false (.t 5)),.mk none (.mkfn 7 101 [(.t 3)]),.mk none (.call (some 8) 100 [(.t 6),(.t 7)]),.mk none (.mov 4 (.t 8))]
def f67b2:AQ:=(.seq (.region f67r1) .ret)
def f67r3:LA:=[.mk none (.box 2 31 (.t 0)),.mk none (.box 3 9 (.t 1)),.mk none (.mov 4 (.v (.k (.c (.int .i64 0)))))]
def f67b4:AQ:=(.seq (.region f67r3) (.frz 3 f67b2))
def f67:AQ:=f67b4
theorem hf67:zH Tryz.prog 67=some ⟨9,f67.erase,[(RX.t 4)]⟩:=by kernel_rfl
theorem okf67:f67.ok=true:=by kernel_rfl
def f68r1:LA:=[.mk none (.mov 9 (.t 0)),.mk none (.mov 10 (.t 1)),.mk none (.iaddr 11 1 (.t 9) (.t 10)),.mk none (.load 12 1 false (.t 11)),.mk none (.mov 4 (.t 12))]
def f68b2:AQ:=(.seq (.region f68r1) .ret)
def f68r3:LA:=[.mk none (.mov 4 (.v (.k (.c (.str [])))))]
def f68b4:AQ:=(.seq (.region f68r3) .ret)
def f68b5:AQ:=(.cond (.t 8) f68b4 .skip)
def f68r6:LA:=[.mk none (.mov 5 (.t 1)),.mk none (.mov 6 (.t 0)),.mk none (.len 7 (.t 6)),.mk none (.bin 8 .geq (.t 5) (.t 7))]
def f68b7:AQ:=(.seq (.region f68r6) f68b5)
def f68b8:AQ:=(.seq f68b7 f68b2)
def f68r9:LA:=[.mk none (.mov 4 (.v (.k (.c (.str [])))))]
def f68b10:AQ:=(.seq (.region f68r9) f68b8)
def f68:AQ:=f68b10
theorem hf68:zH Tryz.prog 68=some ⟨13,f68.erase,[(RX.t 4)]⟩:=by kernel_rfl
theorem okf68:f68.ok=true:=by kernel_rfl
def f69r1:LA:=[.mk none (.mov 29 (.t 4)),.mk none (.mov 2 (.t 29))]
def f69b2:AQ:=(.seq (.region f69r1) .ret)
def f69r3:LA:=[.mk none (.mov 2 (.v (.k (.c (.int .i64 (-1))))))]
def f69b4:AQ:=(.seq (.region f69r3) .ret)
def f69b5:AQ:=(.cond (.t 28) f69b4 .skip)
def f69r6:LA:=[.mk none (.mov 27 (.t 5)),.mk none (.bin 28 .neq (.t 27) (.v (.k (.c (.int .i64 0)))))]
def f69b7:AQ:=(.seq (.region f69r6) f69b5)
def f69b8:AQ:=(.seq f69b7 f69b2)
def f69r9:LA:=[.mk none (.mov 12 (.t 3)),.mk none (.iaddr 13 1 (.t 12) (.v (.k (.c (.int .i64 0))))),.mk none (.load 14 1 false (.t 13)),.mk none (.call (some 15) 71 [(.t 14)]),.mk none (.mov 16 (.t 3)),.mk none (.iaddr 17 1 (.t 16) (.v (.k (.c (.int .i64 1))))),.mk none (.load 18 1 false (.t 17)),.mk none (.call (some 19) 71 [(.t 18)]),.mk none (.mov 20 (.t 3)),.mk none (.iaddr 21 1 (.t 20) (.v (.k (.c (.int .i64 2))))),.mk none (.load 22 1 false (.t 21)),.mk none (.call (some 23) 71 [(.t 22)]),.mk none (.call (some 24) 102 [(.t 15),(.t 19),(.t 23)]),.mk none (.mov 11 (.t 24)),.mk none (.extr 25 (.t 11) 0),.mk none (.extr 26 (.t 11) 1),.mk none (.mov 4 (.t 25)),.mk none (.mov 5 (.t 26))]
def f69b10:AQ:=(.seq (.draw f69r9 [[],[0],[1],[2],[],[4],[5],[6,3],[],[8],[9],[10,7],[3,7,11,11],[12],[13],[13],[14,12,0,1,2,3,4,5,6,7,8,9,10,11,12,13,14],[15,16,0,1,2,3,4,5,6,7,8,9,10,11,12,13,14,15,16]]) f69b8)
def f69r11:LA:=[.mk none (.mov 2 (.v (.k (.c (.int .i64 (-1))))))]
def f69b12:AQ:=(.seq (.region f69r11) .ret)
def f69b13:AQ:=(.cond (.t 10) f69b12 .skip)
def f69r14:LA:=[.mk none (.mov 8 (.t 3)),.mk none (.len 9 (.t 8)),.mk none (.bin 10 .neq (.t 9) (.v (.k (.c (.int .i64 3)))))]
def f69b15:AQ:=(.seq (.region f69r14) f69b13)
def f69b16:AQ:=(.seq f69b15 f69b10)
def f69r17:LA:=[.mk none (.mov 6 (.t 0)),.mk none (.call (some 7) 23 [(.t 6),(.v (.k (.c (.str [45]))))]),.mk none (.mov 3 (.t 7))]
def f69b18:AQ:=(.seq (.region f69r17) f69b16)
def f69r19:LA:=[.mk none (.mov 2 (.v (.k (.c (.int .i64 0)))))]
def f69b20:AQ:=(.seq (.region f69r19) f69b18)
def f69:AQ:=f69b20
theorem hf69:zH Tryz.prog 69=some ⟨30,f69.erase,[(RX.t 2)]⟩:=by kernel_rfl
theorem okf69:f69.ok=true:=by kernel_rfl
def f70r1:LA:=[.mk none (.load 34 3 true (.t 3)),.mk none (.store 3 (.t 2) (.t 34))]
def f70b2:AQ:=(.seq (.region f70r1) .ret)
def f70r3:LA:=[.mk none (.mov 9 (.t 0)),.mk none (.call (some 10) 68 [(.t 9),(.v (.k (.c (.int .i64 2))))]),.mk none (.call (some 11) 69 [(.t 10)]),.mk none (.build 12 [(.int .i64 0),(.int .i64 0),(.int .i64 0)] [(0,(1,(.v (.k (.c (.int .i64 3)))))),(1,(1,(.t 11)))]),.mk none (.store 3 (.t 3) (.t 12))]
def f70r4:LA:=[.mk none (.faddr 17 0 (.t 3)),.mk none (.store 1 (.t 17) (.v (.k (.c (.int .i64 4)))))]
def f70r5:LA:=[.mk none (.faddr 33 0 (.t 3)),.mk none (.store 1 (.t 33) (.v (.k (.c (.int .i64 2)))))]
def f70b6:AQ:=(.cond (.t 32) (.region f70r5) .skip)
def f70r7:LA:=[.mk none (.mov 30 (.t 0)),.mk none (.call (some 31) 68 [(.t 30),(.v (.k (.c (.int .i64 4))))]),.mk none (.bin 32 .eql (.t 31) (.v (.k (.c (.str [100,97,116,101])))))]
def f70b8:AQ:=(.seq (.region f70r7) f70b6)
def f70r9:LA:=[.mk none (.faddr 29 2 (.t 3)),.mk none (.store 1 (.t 29) (.v (.k (.c (.int .i64 1)))))]
def f70b10:AQ:=(.cond (.t 28) (.region f70r9) .skip)
def f70r11:LA:=[.mk none (.mov 26 (.t 0)),.mk none (.call (some 27) 68 [(.t 26),(.v (.k (.c (.int .i64 2))))]),.mk none (.bin 28 .eql (.t 27) (.v (.k (.c (.str [109,111,110,116,104,115])))))]
def f70b12:AQ:=(.seq (.region f70r11) f70b10)
def f70b13:AQ:=(.seq f70b12 f70b8)
def f70r14:LA:=[.mk none (.mov 22 (.t 0)),.mk none (.call (some 23) 68 [(.t 22),(.v (.k (.c (.int .i64 1))))]),.mk none (.call (some 24) 71 [(.t 23)]),.mk none (.build 25 [(.int .i64 0),(.int .i64 0),(.int .i64 0)] [(0,(1,(.v (.k (.c (.int .i64 1)))))),(1,(1,(.t 24)))]),.mk none (.store 3 (.t 3) (.t 25))]
def f70b15:AQ:=(.seq (.region f70r14) f70b13)
def f70b16:AQ:=(.cond (.t 18) f70b15 .skip)
def f70r17:LA:=[.mk none (.mov 19 (.t 0)),.mk none (.call (some 20) 68 [(.t 19),(.v (.k (.c (.int .i64 3))))]),.mk none (.bin 21 .eql (.t 20) (.v (.k (.c (.str [97,102,116,101,114]))))),.mk none (.mov 18 (.t 21))]
def f70b18:AQ:=(.seq (.region f70r17) f70b16)
def f70b19:AQ:=(.cond (.t 13) (.region f70r4) f70b18)
def f70r20:LA:=[.mk none (.mov 14 (.t 0)),.mk none (.call (some 15) 68 [(.t 14),(.v (.k (.c (.int .i64 2))))]),.mk none (.bin 16 .eql (.t 15) (.v (.k (.c (.str [117,115,97,110,99,101]))))),.mk none (.mov 13 (.t 16))]
def f70b21:AQ:=(.seq (.region f70r20) f70b19)
def f70b22:AQ:=(.cond (.t 5) (.region f70r3) f70b21)
def f70r23:LA:=[.mk none (.mov 6 (.t 0)),.mk none (.call (some 7) 68 [(.t 6),(.v (.k (.c (.int .i64 1))))]),.mk none (.bin 8 .eql (.t 7) (.v (.k (.c (.str [111,110]))))),.mk none (.mov 5 (.t 8))]
def f70b24:AQ:=(.seq (.region f70r23) f70b22)
def f70b25:AQ:=(.block 0 f70b24)
def f70b26:AQ:=(.seq f70b25 f70b2)
def f70r27:LA:=[.mk none (.build 4 [(.int .i64 0),(.int .i64 0),(.int .i64 0)] [(0,(1,(.v (.k (.c (.int .i64 0))))))]),.mk none (.alloc 3 33 [(.int .i64 0),(.int .i64 0),(.int .i64 0)]),.mk none (.store 3 (.t 3) (.t 4))]
def f70b28:AQ:=(.seq (.region f70r27) f70b26)
def f70r29:LA:=[.mk none (.alloc 2 33 [(.int .i64 0),(.int .i64 0),(.int .i64 0)])]
def f70b30:AQ:=(.seq (.region f70r29) f70b28)
def f70:AQ:=f70b30
theorem hf70:zH Tryz.prog 70=some ⟨35,f70.erase,[(RX.cell 2 3 true)]⟩:=by kernel_rfl
theorem okf70:f70.ok=true:=by kernel_rfl
def f72r1:LA:=[.mk none (.faddr 5 3 (.t 2)),.mk none (.load 6 1 false (.t 5)),.mk none (.mkfn 7 105 [(.t 3)]),.mk none (.call (some 8) 104 [(.t 6),(.t 7)]),.mk none (.mov 4 (.t 8))]
def f72b2:AQ:=(.seq (.region f72r1) .ret)
def f72r3:LA:=[.mk none (.box 2 31 (.t 0)),.mk none (.box 3 9 (.t 1)),.mk none (.mov 4 (.v (.k (.c (.int .i64 0)))))]
def f72b4:AQ:=(.seq (.region f72r3) (.frz 3 f72b2))
def f72:AQ:=f72b4
theorem hf72:zH Tryz.prog 72=some ⟨9,f72.erase,[(RX.t 4)]⟩:=by kernel_rfl
theorem okf72:f72.ok=true:=by kernel_rfl
def f74r1:LA:=[.mk none (.mov 50 (.t 2)),.mk none (.mov 51 (.t 3)),.mk none (.mov 52 (.t 4)),.mk none (.mov 2 (.t 50)),.mk none (.mov 3 (.t 51)),.mk none (.mov 4 (.t 52))]
def f74b2:AQ:=(.seq (.region f74r1) .ret)
def f74r3:LA:=[.mk none (.bin 49 .add (.t 40) (.v (.k (.c (.int .i64 1))))),.mk none (.mov 40 (.t 49))]
def f74r4:LA:=[.mk none (.mov 44 (.t 4)),.mk none (.faddr 45 0 (.t 10)),.mk none (.load 46 1 false (.t 45)),.mk none (.bslice 47 9 1 [(.str [])] 1 [(0,(.t 46))]),.mk none (.append 48 9 1 16 (.t 44) (.t 47)),.mk none (.mov 4 (.t 48))]
def f74r5:LA:=[.mk none (.iaddr 42 4 (.t 38) (.t 40)),.mk none (.load 43 4 true (.t 42)),.mk none (.alloc 10 102 [(.str []),(.bool false),(.list 0 (some true) []),(.list 0 (some true) [])]),.mk none (.store 4 (.t 10) (.t 43))]
def f74b6:AQ:=(.seq (.region f74r5) (.region f74r4))
def f74b7:AQ:=(.block 5 f74b6)
def f74b8:AQ:=(.seq f74b7 (.region f74r3))
def f74b9:AQ:=(.cond (.t 41) .skip (.exit 4))
def f74b10:AQ:=(.seq f74b9 f74b8)
def f74r11:LA:=[.mk none (.bin 41 .lss (.t 40) (.t 39))]
def f74b12:AQ:=(.seq (.region f74r11) f74b10)
def f74l13:AQ:=.loop [2,3,4,38,39,40] [2,3,4,22,35,48] f74b12
def f74b14:AQ:=(.block 4 f74l13)
def f74r15:LA:=[.mk none (.faddr 37 4 (.t 1)),.mk none (.load 38 1 false (.t 37)),.mk none (.len 39 (.t 38)),.mk none (.mov 40 (.v (.k (.c (.int .i64 0)))))]
def f74b16:AQ:=(.seq (.region f74r15) f74b14)
def f74b17:AQ:=(.seq f74b16 f74b2)
def f74r18:LA:=[.mk none (.bin 36 .add (.t 27) (.v (.k (.c (.int .i64 1))))),.mk none (.mov 27 (.t 36))]
def f74r19:LA:=[.mk none (.mov 31 (.t 3)),.mk none (.faddr 32 0 (.t 8)),.mk none (.load 33 1 false (.t 32)),.mk none (.bslice 34 9 1 [(.str [])] 1 [(0,(.t 33))]),.mk none (.append 35 9 1 16 (.t 31) (.t 34)),.mk none (.mov 3 (.t 35))]
def f74r20:LA:=[.mk none (.iaddr 29 3 (.t 25) (.t 27)),.mk none (.load 30 3 true (.t 29)),.mk none (.alloc 8 94 [(.str []),(.int .i64 0),(.int .i64 0)]),.mk none (.store 3 (.t 8) (.t 30))]
def f74b21:AQ:=(.seq (.region f74r20) (.region f74r19))
def f74b22:AQ:=(.block 3 f74b21)
def f74b23:AQ:=(.seq f74b22 (.region f74r18))
def f74b24:AQ:=(.cond (.t 28) .skip (.exit 2))
def f74b25:AQ:=(.seq f74b24 f74b23)
def f74r26:LA:=[.mk none (.bin 28 .lss (.t 27) (.t 26))]
def f74b27:AQ:=(.seq (.region f74r26) f74b25)
def f74l28:AQ:=.loop [1,2,3,4,25,26,27] [1,2,3,4,22,35,48] f74b27
def f74b29:AQ:=(.block 2 f74l28)
def f74r30:LA:=[.mk none (.faddr 24 3 (.t 1)),.mk none (.load 25 1 false (.t 24)),.mk none (.len 26 (.t 25)),.mk none (.mov 27 (.v (.k (.c (.int .i64 0)))))]
def f74b31:AQ:=(.seq (.region f74r30) f74b29)
def f74b32:AQ:=(.seq f74b31 f74b17)
def f74r33:LA:=[.mk none (.bin 23 .add (.t 14) (.v (.k (.c (.int .i64 1))))),.mk none (.mov 14 (.t 23))]
def f74r34:LA:=[.mk none (.mov 18 (.t 2)),.mk none (.faddr 19 0 (.t 6)),.mk none (.load 20 1 false (.t 19)),.mk none (.bslice 21 9 1 [(.str [])] 1 [(0,(.t 20))]),.mk none (.append 22 9 1 16 (.t 18) (.t 21)),.mk none (.mov 2 (.t 22))]
def f74r35:LA:=[.mk none (.iaddr 16 6 (.t 12) (.t 14)),.mk none (.load 17 6 true (.t 16)),.mk none (.alloc 6 91 [(.str []),(.int .i64 0),(.int .i64 0),(.list 0 (some true) []),(.list 0 (some true) []),(.list 0 (some true) [])]),.mk none (.store 6 (.t 6) (.t 17))]
def f74b36:AQ:=(.seq (.region f74r35) (.region f74r34))
def f74b37:AQ:=(.block 1 f74b36)
def f74b38:AQ:=(.seq f74b37 (.region f74r33))
def f74b39:AQ:=(.cond (.t 15) .skip (.exit 0))
def f74b40:AQ:=(.seq f74b39 f74b38)
def f74r41:LA:=[.mk none (.bin 15 .lss (.t 14) (.t 13))]
def f74b42:AQ:=(.seq (.region f74r41) f74b40)
def f74l43:AQ:=.loop [1,2,3,4,12,13,14] [1,2,3,4,22,35,48] f74b42
def f74b44:AQ:=(.block 0 f74l43)
def f74r45:LA:=[.mk none (.faddr 11 1 (.t 1)),.mk none (.load 12 1 false (.t 11)),.mk none (.len 13 (.t 12)),.mk none (.mov 14 (.v (.k (.c (.int .i64 0)))))]
def f74b46:AQ:=(.seq (.region f74r45) f74b44)
def f74b47:AQ:=(.seq f74b46 f74b32)
def f74r48:LA:=[.mk none (.box 1 31 (.t 0)),.mk none (.nilL 2 9 1),.mk none (.nilL 3 9 1),.mk none (.nilL 4 9 1)]
def f74b49:AQ:=(.seq (.region f74r48) f74b47)
def f74:AQ:=f74b49
theorem hf74:zH Tryz.prog 74=some ⟨53,f74.erase,[(RX.t 2),(RX.t 3),(RX.t 4)]⟩:=by kernel_rfl
theorem okf74:f74.ok=true:=by kernel_rfl
def f75r1:LA:=[.mk none (.mov 6 (.v (.k (.c (.int .i64 0)))))]
def f75b2:AQ:=(.seq (.region f75r1) .ret)
def f75r3:LA:=[.mk none (.bin 28 .add (.t 15) (.v (.k (.c (.int .i64 1))))),.mk none (.mov 15 (.t 28))]
def f75r4:LA:=[.mk none (.mov 6 (.v (.k (.c (.int .i64 1)))))]
def f75b5:AQ:=(.seq (.region f75r4) .ret)
def f75b6:AQ:=(.cond (.t 27) f75b5 .skip)
def f75r7:LA:=[.mk none (.mov 24 (.t 2)),.mk none (.mov 25 (.t 7)),.mk none (.callv (some 26) (.t 24) [(.t 25)]),.mk none (.un 27 .not (.t 26))]
def f75b8:AQ:=(.seq (.region f75r7) f75b6)
def f75r9:LA:=[.mk none (.mov 23 (.t 8)),.mk none (.mov 6 (.t 23))]
def f75b10:AQ:=(.seq (.region f75r9) .ret)
def f75b11:AQ:=(.cond (.t 22) f75b10 .skip)
def f75r12:LA:=[.mk none (.mov 21 (.t 8)),.mk none (.bin 22 .neq (.t 21) (.v (.k (.c (.int .i64 0)))))]
def f75b13:AQ:=(.seq (.region f75r12) f75b11)
def f75r14:LA:=[.mk none (.mov 18 (.t 0)),.mk none (.mov 19 (.t 7)),.mk none (.call (some 20) 108 [(.t 18),(.t 19)]),.mk none (.mov 8 (.t 20))]
def f75b15:AQ:=(.seq (.region f75r14) f75b13)
def f75b16:AQ:=(.seq f75b15 f75b8)
def f75r17:LA:=[.mk none (.mov 17 (.t 15)),.mk none (.mov 7 (.t 17))]
def f75b18:AQ:=(.seq (.region f75r17) f75b16)
def f75b19:AQ:=(.block 1 f75b18)
def f75b20:AQ:=(.seq f75b19 (.region f75r3))
def f75b21:AQ:=(.cond (.t 16) .skip (.exit 0))
def f75b22:AQ:=(.seq f75b21 f75b20)
def f75r23:LA:=[.mk none (.bin 16 .lss (.t 15) (.t 14))]
def f75b24:AQ:=(.seq (.region f75r23) f75b22)
def f75l25:AQ:=.loop [0,2,14,15] [] f75b24
def f75b26:AQ:=(.block 0 f75l25)
def f75r27:LA:=[.mk none (.mov 13 (.t 0)),.mk none (.len 14 (.t 13)),.mk none (.mov 15 (.v (.k (.c (.int .i64 0)))))]
def f75b28:AQ:=(.seq (.region f75r27) f75b26)
def f75b29:AQ:=(.seq f75b28 f75b2)
def f75r30:LA:=[.mk none (.mov 6 (.v (.k (.c (.int .i64 6)))))]
def f75b31:AQ:=(.seq (.region f75r30) .ret)
def f75b32:AQ:=(.cond (.t 12) f75b31 .skip)
def f75r33:LA:=[.mk none (.mov 9 (.t 0)),.mk none (.len 10 (.t 9)),.mk none (.mov 11 (.t 1)),.mk none (.bin 12 .gtr (.t 10) (.t 11))]
def f75b34:AQ:=(.seq (.region f75r33) f75b32)
def f75b35:AQ:=(.seq f75b34 f75b29)
def f75r36:LA:=[.mk none (.mov 6 (.v (.k (.c (.int .i64 0)))))]
def f75b37:AQ:=(.seq (.region f75r36) f75b35)
def f75:AQ:=f75b37
theorem hf75:zH Tryz.prog 75=some ⟨29,f75.erase,[(RX.t 6)]⟩:=by kernel_rfl
theorem okf75:f75.ok=true:=by kernel_rfl
def f76r1:LA:=[.mk none (.mov 2 (.v (.k (.c (.bool true)))))]
def f76b2:AQ:=(.seq (.region f76r1) .ret)
def f76r3:LA:=[.mk none (.mov 2 (.v (.k (.c (.bool false)))))]
def f76b4:AQ:=(.seq (.region f76r3) f76b2)
def f76:AQ:=f76b4
theorem hf76:zH Tryz.prog 76=some ⟨3,f76.erase,[(RX.t 2)]⟩:=by kernel_rfl
theorem okf76:f76.ok=true:=by kernel_rfl
def f77r1:LA:=[.mk none (.load 4 8 true (.t 1)),.mk none (.faddr 5 1 (.t 1)),.mk none (.load 6 1 false (.t 5)),.mk none (.mov 7 (.t 0)),.mk none (.iaddr 8 6 (.t 6) (.t 7)),.mk none (.load 9 6 true (.t 8)),.mk none (.call (some 10) 78 [(.t 4),(.t 9)]),.mk none (.mov 3 (.t 10))]
def f77b2:AQ:=(.seq (.draw f77r1 [[],[],[1],[],[2,3],[4],[0,5],[6,6,0,1,2,3,4,5,6]]) .ret)
def f77r3:LA:=[.mk none (.mov 3 (.v (.k (.c (.bool false)))))]
def f77b4:AQ:=(.seq (.region f77r3) f77b2)
def f77:AQ:=f77b4
theorem hf77:zH Tryz.prog 77=some ⟨11,f77.erase,[(RX.t 3)]⟩:=by kernel_rfl
theorem okf77:f77.ok=true:=by kernel_rfl
def f78r1:LA:=[.mk none (.faddr 51 3 (.t 3)),.mk none (.load 52 1 false (.t 51)),.mk none (.call (some 53) 109 [(.t 52),(.v (.k (.c (.int .i64 0)))),(.v (.k (.c (.int .i64 6))))]),.mk none (.mov 54 (.t 53)),.mk (some (54,true)) (.faddr 55 4 (.t 3)),.mk (some (54,true)) (.load 56 1 false (.t 55)),.mk (some (54,true)) (.call (some 57) 109 [(.t 56),(.v (.k (.c (.int .i64 101)))),(.v (.k (.c (.int .i64 1231))))]),.mk none (.pick 58 (.t 54) (.t 57) (.v (.k (.c (.bool false))))),.mk none (.mov 59 (.t 58)),.mk (some (59,true)) (.faddr 60 5 (.t 3)),.mk (some (59,true)) (.load 61 1 false (.t 60)),.mk (some (59,true)) (.call (some 62) 109 [(.t 61),(.v (.k (.c (.int .i64 0)))),(.v (.k (.c (.int .i64 100000))))]),.mk none (.pick 63 (.t 59) (.t 62) (.v (.k (.c (.bool false))))),.mk none (.mov 4 (.t 63))]
def f78b2:AQ:=(.seq (.region f78r1) .ret)
def f78r3:LA:=[.mk none (.mov 4 (.v (.k (.c (.bool false)))))]
def f78b4:AQ:=(.seq (.region f78r3) .ret)
def f78b5:AQ:=(.cond (.t 50) f78b4 .skip)
def f78r6:LA:=[.mk none (.faddr 23 4 (.t 3)),.mk none (.load 24 1 false (.t 23)),.mk none (.len 25 (.t 24)),.mk none (.bin 26 .gtr (.t 25) (.v (.k (.c (.int .i64 60))))),.mk none (.mov 27 (.t 26)),.mk (some (27,false)) (.faddr 28 5 (.t 3)),.mk (some (27,false)) (.load 29 1 false (.t 28)),.mk (some (27,false)) (.len 30 (.t 29)),.mk (some (27,false)) (.bin 31 .gtr (.t 30) (.v (.k (.c (.int .i64 200))))),.mk none (.pick 32 (.t 27) (.v (.k (.c (.bool true)))) (.t 31)),.mk none (.mov 33 (.t 32)),.mk (some (33,false)) (.faddr 34 1 (.t 3)),.mk (some (33,false)) (.load 35 1 false (.t 34)),.mk (some (33,false)) (.faddr 36 4 (.t 2)),.mk (some (33,false)) (.load 37 1 false (.t 36)),.mk (some (33,false)) (.len 38 (.t 37)),.mk (some (33,false)) (.call (some 39) 79 [(.t 35),(.t 38)]),.mk (some (33,false)) (.un 40 .not (.t 39)),.mk none (.pick 41 (.t 33) (.v (.k (.c (.bool true)))) (.t 40)),.mk none (.mov 42 (.t 41)),.mk (some (42,false)) (.faddr 43 2 (.t 3)),.mk (some (42,false)) (.load 44 1 false (.t 43)),.mk (some (42,false)) (.faddr 45 0 (.t 2)),.mk (some (42,false)) (.load 46 1 false (.t 45)),.mk (some (42,false)) (.len 47 (.t 46)),.mk (some (42,false)) (.call (some 48) 79 [(.t 44),(.t 47)]),.mk (some (42,false)) (.un 49 .not (.t 48)),.mk none (.pick 50 (.t 42) (.v (.k (.c (.bool true)))) (.t 49))]
def f78b7:AQ:=(.seq (.region f78r6) f78b5)
def f78b8:AQ:=(.seq f78b7 f78b2)
def f78r9:LA:=[.mk none (.bin 22 .add (.t 10) (.v (.k (.c (.int .i64 1))))),.mk none (.mov 10 (.t 22))]
def f78r10:LA:=[.mk none (.mov 4 (.v (.k (.c (.bool false)))))]
def f78b11:AQ:=(.seq (.region f78r10) .ret)
def f78b12:AQ:=(.cond (.t 21) f78b11 .skip)
def f78r13:LA:=[.mk none (.mov 14 (.t 6)),.mk none (.bin 15 .rem (.t 14) (.v (.k (.c (.int .i64 100))))),.mk none (.bin 16 .lss (.t 15) (.v (.k (.c (.int .i64 1))))),.mk none (.mov 17 (.t 16)),.mk (some (17,false)) (.mov 18 (.t 6)),.mk (some (17,false)) (.bin 19 .rem (.t 18) (.v (.k (.c (.int .i64 100))))),.mk (some (17,false)) (.bin 20 .gtr (.t 19) (.v (.k (.c (.int .i64 31))))),.mk none (.pick 21 (.t 17) (.v (.k (.c (.bool true)))) (.t 20))]
def f78b14:AQ:=(.seq (.region f78r13) f78b12)
def f78r15:LA:=[.mk none (.iaddr 12 1 (.t 8) (.t 10)),.mk none (.load 13 1 false (.t 12)),.mk none (.mov 6 (.t 13))]
def f78b16:AQ:=(.seq (.region f78r15) f78b14)
def f78b17:AQ:=(.block 1 f78b16)
def f78b18:AQ:=(.seq f78b17 (.region f78r9))
def f78b19:AQ:=(.cond (.t 11) .skip (.exit 0))
def f78b20:AQ:=(.seq f78b19 f78b18)
def f78r21:LA:=[.mk none (.bin 11 .lss (.t 10) (.t 9))]
def f78b22:AQ:=(.seq (.region f78r21) f78b20)
def f78l23:AQ:=.loop [2,3,8,9,10] [2,3] f78b22
def f78b24:AQ:=(.block 0 f78l23)
def f78r25:LA:=[.mk none (.faddr 7 4 (.t 3)),.mk none (.load 8 1 false (.t 7)),.mk none (.len 9 (.t 8)),.mk none (.mov 10 (.v (.k (.c (.int .i64 0)))))]
def f78b26:AQ:=(.seq (.region f78r25) f78b24)
def f78b27:AQ:=(.seq f78b26 f78b8)
def f78r28:LA:=[.mk none (.box 2 31 (.t 0)),.mk none (.box 3 91 (.t 1)),.mk none (.mov 4 (.v (.k (.c (.bool false)))))]
def f78b29:AQ:=(.seq (.region f78r28) f78b27)
def f78:AQ:=f78b29
theorem hf78:zH Tryz.prog 78=some ⟨64,f78.erase,[(RX.t 4)]⟩:=by kernel_rfl
theorem okf78:f78.ok=true:=by kernel_rfl
def f79r1:LA:=[.mk none (.mov 5 (.t 0)),.mk none (.bin 6 .geq (.t 5) (.v (.k (.c (.int .i64 0))))),.mk none (.mov 7 (.t 6)),.mk (some (7,true)) (.mov 8 (.t 0)),.mk (some (7,true)) (.mov 9 (.t 1)),.mk (some (7,true)) (.bin 10 .lss (.t 8) (.t 9)),.mk none (.pick 11 (.t 7) (.t 10) (.v (.k (.c (.bool false))))),.mk none (.mov 4 (.t 11))]
def f79b2:AQ:=(.seq (.region f79r1) .ret)
def f79r3:LA:=[.mk none (.mov 4 (.v (.k (.c (.bool false)))))]
def f79b4:AQ:=(.seq (.region f79r3) f79b2)
def f79:AQ:=f79b4
theorem hf79:zH Tryz.prog 79=some ⟨12,f79.erase,[(RX.t 4)]⟩:=by kernel_rfl
theorem okf79:f79.ok=true:=by kernel_rfl
def f80r1:LA:=[.mk none (.faddr 4 3 (.t 1)),.mk none (.load 5 1 false (.t 4)),.mk none (.mov 6 (.t 0)),.mk none (.iaddr 7 3 (.t 5) (.t 6)),.mk none (.faddr 8 1 (.t 7)),.mk none (.load 9 1 false (.t 8)),.mk none (.faddr 10 1 (.t 1)),.mk none (.load 11 1 false (.t 10)),.mk none (.len 12 (.t 11)),.mk none (.call (some 13) 79 [(.t 9),(.t 12)]),.mk none (.mov 14 (.t 13)),.mk (some (14,true)) (.faddr 15 3 (.t 1)),.mk (some (14,true)) (.load 16 1 false (.t 15)),.mk (some (14,true)) (.mov 17 (.t 0)),.mk (some (14,true)) (.iaddr 18 3 (.t 16) (.t 17)),.mk (some (14,true)) (.faddr 19 2 (.t 18)),.mk (some (14,true)) (.load 20 1 false (.t 19)),.mk (some (14,true)) (.faddr 21 2 (.t 1)),.mk (some (14,true)) (.load 22 1 false (.t 21)),.mk (some (14,true)) (.len 23 (.t 22)),.mk (some (14,true)) (.call (some 24) 79 [(.t 20),(.t 23)]),.mk none (.pick 25 (.t 14) (.t 24) (.v (.k (.c (.bool false))))),.mk none (.mov 3 (.t 25))]
def f80b2:AQ:=(.seq (.draw f80r1 [[],[0],[],[1,2],[3],[4],[],[6],[7],[5,8],[9,9],[10],[11,10],[10],[12,13,10],[14,10],[15,10],[10],[17,10],[18,10],[16,19,10,10],[10,20],[21,20,0,1,2,3,4,5,6,7,8,9,10,11,12,13,14,15,16,17,18,19,20,21]]) .ret)
def f80r3:LA:=[.mk none (.mov 3 (.v (.k (.c (.bool false)))))]
def f80b4:AQ:=(.seq (.region f80r3) f80b2)
def f80:AQ:=f80b4
theorem hf80:zH Tryz.prog 80=some ⟨26,f80.erase,[(RX.t 3)]⟩:=by kernel_rfl
theorem okf80:f80.ok=true:=by kernel_rfl
def f81r1:LA:=[.mk none (.faddr 4 4 (.t 1)),.mk none (.load 5 1 false (.t 4)),.mk none (.mov 6 (.t 0)),.mk none (.iaddr 7 4 (.t 5) (.t 6)),.mk none (.load 8 4 true (.t 7)),.mk none (.call (some 9) 82 [(.t 8)]),.mk none (.mov 3 (.t 9))]
def f81b2:AQ:=(.seq (.region f81r1) .ret)
def f81r3:LA:=[.mk none (.mov 3 (.v (.k (.c (.bool false)))))]
def f81b4:AQ:=(.seq (.region f81r3) f81b2)
def f81:AQ:=f81b4
theorem hf81:zH Tryz.prog 81=some ⟨10,f81.erase,[(RX.t 3)]⟩:=by kernel_rfl
theorem okf81:f81.ok=true:=by kernel_rfl
def f82r1:LA:=[.mk none (.mov 39 (.t 3)),.mk none (.call (some 40) 109 [(.t 39),(.v (.k (.c (.int .i64 0)))),(.v (.k (.c (.int .i64 21))))]),.mk none (.mov 41 (.t 40)),.mk (some (41,true)) (.mov 42 (.t 4)),.mk (some (41,true)) (.call (some 43) 109 [(.t 42),(.v (.k (.c (.int .i64 0)))),(.v (.k (.c (.int .i64 21))))]),.mk none (.pick 44 (.t 41) (.t 43) (.v (.k (.c (.bool false))))),.mk none (.mov 2 (.t 44))]
def f82b2:AQ:=(.seq (.region f82r1) .ret)
def f82r3:LA:=[.mk none (.bin 38 .add (.t 29) (.v (.k (.c (.int .i64 1))))),.mk none (.mov 29 (.t 38))]
def f82r4:LA:=[.mk none (.mov 33 (.t 4)),.mk none (.faddr 34 0 (.t 8)),.mk none (.load 35 1 false (.t 34)),.mk none (.bslice 36 3 1 [(.int .i64 0)] 1 [(0,(.t 35))]),.mk none (.append 37 3 1 8 (.t 33) (.t 36)),.mk none (.mov 4 (.t 37))]
def f82r5:LA:=[.mk none (.iaddr 31 4 (.t 27) (.t 29)),.mk none (.load 32 4 true (.t 31)),.mk none (.alloc 8 137 [(.int .i64 0),(.int .i64 0),(.int .i64 0),(.list 0 (some true) [])]),.mk none (.store 4 (.t 8) (.t 32))]
def f82b6:AQ:=(.seq (.region f82r5) (.region f82r4))
def f82b7:AQ:=(.block 3 f82b6)
def f82b8:AQ:=(.seq f82b7 (.region f82r3))
def f82b9:AQ:=(.cond (.t 30) .skip (.exit 2))
def f82b10:AQ:=(.seq f82b9 f82b8)
def f82r11:LA:=[.mk none (.bin 30 .lss (.t 29) (.t 28))]
def f82b12:AQ:=(.seq (.region f82r11) f82b10)
def f82l13:AQ:=.loop [3,4,27,28,29] [3,4,20,37] f82b12
def f82b14:AQ:=(.block 2 f82l13)
def f82r15:LA:=[.mk none (.faddr 26 3 (.t 1)),.mk none (.load 27 1 false (.t 26)),.mk none (.len 28 (.t 27)),.mk none (.mov 29 (.v (.k (.c (.int .i64 0)))))]
def f82b16:AQ:=(.seq (.region f82r15) f82b14)
def f82b17:AQ:=(.seq f82b16 f82b2)
def f82r18:LA:=[.mk none (.bin 25 .add (.t 12) (.v (.k (.c (.int .i64 1))))),.mk none (.mov 12 (.t 25))]
def f82r19:LA:=[.mk none (.mov 2 (.v (.k (.c (.bool false)))))]
def f82b20:AQ:=(.seq (.region f82r19) .ret)
def f82b21:AQ:=(.cond (.t 24) f82b20 .skip)
def f82r22:LA:=[.mk none (.faddr 21 1 (.t 6)),.mk none (.load 22 1 false (.t 21)),.mk none (.call (some 23) 79 [(.t 22),(.v (.k (.c (.int .i64 5))))]),.mk none (.un 24 .not (.t 23))]
def f82b23:AQ:=(.seq (.region f82r22) f82b21)
def f82r24:LA:=[.mk none (.mov 16 (.t 3)),.mk none (.faddr 17 0 (.t 6)),.mk none (.load 18 1 false (.t 17)),.mk none (.bslice 19 3 1 [(.int .i64 0)] 1 [(0,(.t 18))]),.mk none (.append 20 3 1 8 (.t 16) (.t 19)),.mk none (.mov 3 (.t 20))]
def f82b25:AQ:=(.seq (.region f82r24) f82b23)
def f82r26:LA:=[.mk none (.iaddr 14 3 (.t 10) (.t 12)),.mk none (.load 15 3 true (.t 14)),.mk none (.alloc 6 132 [(.int .i64 0),(.int .i64 0),(.bool false)]),.mk none (.store 3 (.t 6) (.t 15))]
def f82b27:AQ:=(.seq (.region f82r26) f82b25)
def f82b28:AQ:=(.block 1 f82b27)
def f82b29:AQ:=(.seq f82b28 (.region f82r18))
def f82b30:AQ:=(.cond (.t 13) .skip (.exit 0))
def f82b31:AQ:=(.seq f82b30 f82b29)
def f82r32:LA:=[.mk none (.bin 13 .lss (.t 12) (.t 11))]
def f82b33:AQ:=(.seq (.region f82r32) f82b31)
def f82l34:AQ:=.loop [1,3,4,10,11,12] [1,3,4,20,37] f82b33
def f82b35:AQ:=(.block 0 f82l34)
def f82r36:LA:=[.mk none (.faddr 9 2 (.t 1)),.mk none (.load 10 1 false (.t 9)),.mk none (.len 11 (.t 10)),.mk none (.mov 12 (.v (.k (.c (.int .i64 0)))))]
def f82b37:AQ:=(.seq (.region f82r36) f82b35)
def f82b38:AQ:=(.seq f82b37 f82b17)
def f82r39:LA:=[.mk none (.nilL 3 3 1),.mk none (.nilL 4 3 1)]
def f82b40:AQ:=(.seq (.region f82r39) f82b38)
def f82r41:LA:=[.mk none (.box 1 102 (.t 0)),.mk none (.mov 2 (.v (.k (.c (.bool false)))))]
def f82b42:AQ:=(.seq (.region f82r41) f82b40)
def f82:AQ:=f82b42
theorem hf82:zH Tryz.prog 82=some ⟨45,f82.erase,[(RX.t 2)]⟩:=by kernel_rfl
theorem okf82:f82.ok=true:=by kernel_rfl
def f83r1:LA:=[.mk none (.mov 2 (.v (.k (.c (.int .i64 0)))))]
def f83b2:AQ:=(.seq (.region f83r1) .ret)
def f83r3:LA:=[.mk none (.bin 67 .add (.t 14) (.v (.k (.c (.int .i64 1))))),.mk none (.mov 14 (.t 67))]
def f83r4:LA:=[.mk none (.bin 66 .add (.t 50) (.v (.k (.c (.int .i64 1))))),.mk none (.mov 50 (.t 66))]
def f83r5:LA:=[.mk none (.mov 2 (.v (.k (.c (.int .i64 5)))))]
def f83b6:AQ:=(.seq (.region f83r5) .ret)
def f83b7:AQ:=(.cond (.t 65) f83b6 .skip)
def f83r8:LA:=[.mk none (.faddr 54 0 (.t 6)),.mk none (.load 55 1 false (.t 54)),.mk none (.faddr 56 0 (.t 4)),.mk none (.load 57 1 false (.t 56)),.mk none (.bin 58 .eql (.t 55) (.t 57)),.mk none (.mov 59 (.t 58)),.mk (some (59,true)) (.faddr 60 1 (.t 6)),.mk (some (59,true)) (.load 61 1 false (.t 60)),.mk (some (59,true)) (.faddr 62 1 (.t 4)),.mk (some (59,true)) (.load 63 1 false (.t 62)),.mk (some (59,true)) (.bin 64 .eql (.t 61) (.t 63)),.mk none (.pick 65 (.t 59) (.t 64) (.v (.k (.c (.bool false)))))]
def f83b9:AQ:=(.seq (.region f83r8) f83b7)
def f83r10:LA:=[.mk none (.iaddr 52 3 (.t 48) (.t 50)),.mk none (.load 53 3 true (.t 52)),.mk none (.alloc 6 116 [(.int .i64 0),(.int .i64 0),(.int .i64 0)]),.mk none (.store 3 (.t 6) (.t 53))]
def f83b11:AQ:=(.seq (.region f83r10) f83b9)
def f83b12:AQ:=(.block 3 f83b11)
def f83b13:AQ:=(.seq f83b12 (.region f83r4))
def f83b14:AQ:=(.cond (.t 51) .skip (.exit 2))
def f83b15:AQ:=(.seq f83b14 f83b13)
def f83r16:LA:=[.mk none (.bin 51 .lss (.t 50) (.t 49))]
def f83b17:AQ:=(.seq (.region f83r16) f83b15)
def f83l18:AQ:=.loop [1,4,12,13,14,48,49,50] [1,4] f83b17
def f83b19:AQ:=(.block 2 f83l18)
def f83r20:LA:=[.mk none (.faddr 45 5 (.t 1)),.mk none (.load 46 1 false (.t 45)),.mk none (.mov 47 (.t 3)),.mk none (.slice 48 3 (.t 46) none (some (.t 47))),.mk none (.len 49 (.t 48)),.mk none (.mov 50 (.v (.k (.c (.int .i64 0)))))]
def f83b21:AQ:=(.seq (.region f83r20) f83b19)
def f83r22:LA:=[.mk none (.mov 2 (.v (.k (.c (.int .i64 1)))))]
def f83b23:AQ:=(.seq (.region f83r22) .ret)
def f83b24:AQ:=(.cond (.t 44) f83b23 .skip)
def f83r25:LA:=[.mk none (.faddr 19 0 (.t 4)),.mk none (.load 20 1 false (.t 19)),.mk none (.faddr 21 1 (.t 1)),.mk none (.load 22 1 false (.t 21)),.mk none (.len 23 (.t 22)),.mk none (.call (some 24) 79 [(.t 20),(.t 23)]),.mk none (.un 25 .not (.t 24)),.mk none (.mov 26 (.t 25)),.mk (some (26,false)) (.faddr 27 1 (.t 4)),.mk (some (26,false)) (.load 28 1 false (.t 27)),.mk (some (26,false)) (.faddr 29 1 (.t 1)),.mk (some (26,false)) (.load 30 1 false (.t 29)),.mk (some (26,false)) (.len 31 (.t 30)),.mk (some (26,false)) (.call (some 32) 79 [(.t 28),(.t 31)]),.mk (some (26,false)) (.un 33 .not (.t 32)),.mk none (.pick 34 (.t 26) (.v (.k (.c (.bool true)))) (.t 33)),.mk none (.mov 35 (.t 34)),.mk (some (35,false)) (.faddr 36 2 (.t 4)),.mk (some (35,false)) (.load 37 1 false (.t 36)),.mk (some (35,false)) (.bin 38 .lss (.t 37) (.v (.k (.c (.int .i64 1))))),.mk none (.pick 39 (.t 35) (.v (.k (.c (.bool true)))) (.t 38)),.mk none (.mov 40 (.t 39)),.mk (some (40,false)) (.faddr 41 2 (.t 4)),.mk (some (40,false)) (.load 42 1 false (.t 41)),.mk (some (40,false)) (.bin 43 .gtr (.t 42) (.v (.k (.c (.int .i64 20000))))),.mk none (.pick 44 (.t 40) (.v (.k (.c (.bool true)))) (.t 43))]
def f83b26:AQ:=(.seq (.region f83r25) f83b24)
def f83b27:AQ:=(.seq f83b26 f83b21)
def f83r28:LA:=[.mk none (.mov 16 (.t 14)),.mk none (.iaddr 17 3 (.t 12) (.t 14)),.mk none (.load 18 3 true (.t 17)),.mk none (.alloc 4 116 [(.int .i64 0),(.int .i64 0),(.int .i64 0)]),.mk none (.mov 3 (.t 16)),.mk none (.store 3 (.t 4) (.t 18))]
def f83b29:AQ:=(.seq (.region f83r28) f83b27)
def f83b30:AQ:=(.block 1 f83b29)
def f83b31:AQ:=(.seq f83b30 (.region f83r3))
def f83b32:AQ:=(.cond (.t 15) .skip (.exit 0))
def f83b33:AQ:=(.seq f83b32 f83b31)
def f83r34:LA:=[.mk none (.bin 15 .lss (.t 14) (.t 13))]
def f83b35:AQ:=(.seq (.region f83r34) f83b33)
def f83l36:AQ:=.loop [1,12,13,14] [1] f83b35
def f83b37:AQ:=(.block 0 f83l36)
def f83r38:LA:=[.mk none (.faddr 11 5 (.t 1)),.mk none (.load 12 1 false (.t 11)),.mk none (.len 13 (.t 12)),.mk none (.mov 14 (.v (.k (.c (.int .i64 0)))))]
def f83b39:AQ:=(.seq (.region f83r38) f83b37)
def f83b40:AQ:=(.seq f83b39 f83b2)
def f83r41:LA:=[.mk none (.mov 2 (.v (.k (.c (.int .i64 6)))))]
def f83b42:AQ:=(.seq (.region f83r41) .ret)
def f83b43:AQ:=(.cond (.t 10) f83b42 .skip)
def f83r44:LA:=[.mk none (.faddr 7 5 (.t 1)),.mk none (.load 8 1 false (.t 7)),.mk none (.len 9 (.t 8)),.mk none (.bin 10 .gtr (.t 9) (.v (.k (.c (.int .i64 100)))))]
def f83b45:AQ:=(.seq (.region f83r44) f83b43)
def f83b46:AQ:=(.seq f83b45 f83b40)
def f83r47:LA:=[.mk none (.box 1 31 (.t 0)),.mk none (.mov 2 (.v (.k (.c (.int .i64 0)))))]
def f83b48:AQ:=(.seq (.region f83r47) f83b46)
def f83:AQ:=f83b48
theorem hf83:zH Tryz.prog 83=some ⟨68,f83.erase,[(RX.t 2)]⟩:=by kernel_rfl
theorem okf83:f83.ok=true:=by kernel_rfl
def f84r1:LA:=[.mk none (.mov 2 (.v (.k (.c (.int .i64 0)))))]
def f84b2:AQ:=(.seq (.region f84r1) .ret)
def f84r3:LA:=[.mk none (.bin 97 .add (.t 69) (.v (.k (.c (.int .i64 1))))),.mk none (.mov 69 (.t 97))]
def f84r4:LA:=[.mk none (.mov 2 (.v (.k (.c (.int .i64 1)))))]
def f84b5:AQ:=(.seq (.region f84r4) .ret)
def f84b6:AQ:=(.cond (.t 96) f84b5 .skip)
def f84r7:LA:=[.mk none (.faddr 73 0 (.t 6)),.mk none (.load 74 1 false (.t 73)),.mk none (.faddr 75 4 (.t 1)),.mk none (.load 76 1 false (.t 75)),.mk none (.len 77 (.t 76)),.mk none (.call (some 78) 79 [(.t 74),(.t 77)]),.mk none (.un 79 .not (.t 78)),.mk none (.mov 80 (.t 79)),.mk (some (80,false)) (.faddr 81 1 (.t 6)),.mk (some (80,false)) (.load 82 1 false (.t 81)),.mk (some (80,false)) (.bin 83 .lss (.t 82) (.v (.k (.c (.int .i64 0))))),.mk none (.pick 84 (.t 80) (.v (.k (.c (.bool true)))) (.t 83)),.mk none (.mov 85 (.t 84)),.mk (some (85,false)) (.faddr 86 1 (.t 6)),.mk (some (85,false)) (.load 87 1 false (.t 86)),.mk (some (85,false)) (.faddr 88 2 (.t 6)),.mk (some (85,false)) (.load 89 1 false (.t 88)),.mk (some (85,false)) (.bin 90 .gtr (.t 87) (.t 89)),.mk none (.pick 91 (.t 85) (.v (.k (.c (.bool true)))) (.t 90)),.mk none (.mov 92 (.t 91)),.mk (some (92,false)) (.faddr 93 2 (.t 6)),.mk (some (92,false)) (.load 94 1 false (.t 93)),.mk (some (92,false)) (.bin 95 .gtr (.t 94) (.v (.k (.c (.int .i64 100000))))),.mk none (.pick 96 (.t 92) (.v (.k (.c (.bool true)))) (.t 95))]
def f84b8:AQ:=(.seq (.region f84r7) f84b6)
def f84r9:LA:=[.mk none (.iaddr 71 3 (.t 67) (.t 69)),.mk none (.load 72 3 true (.t 71)),.mk none (.alloc 6 141 [(.int .i64 0),(.int .i64 0),(.int .i64 0)]),.mk none (.store 3 (.t 6) (.t 72))]
def f84b10:AQ:=(.seq (.region f84r9) f84b8)
def f84b11:AQ:=(.block 3 f84b10)
def f84b12:AQ:=(.seq f84b11 (.region f84r3))
def f84b13:AQ:=(.cond (.t 70) .skip (.exit 2))
def f84b14:AQ:=(.seq f84b13 f84b12)
def f84r15:LA:=[.mk none (.bin 70 .lss (.t 69) (.t 68))]
def f84b16:AQ:=(.seq (.region f84r15) f84b14)
def f84l17:AQ:=.loop [1,67,68,69] [1] f84b16
def f84b18:AQ:=(.block 2 f84l17)
def f84r19:LA:=[.mk none (.faddr 66 7 (.t 1)),.mk none (.load 67 1 false (.t 66)),.mk none (.len 68 (.t 67)),.mk none (.mov 69 (.v (.k (.c (.int .i64 0)))))]
def f84b20:AQ:=(.seq (.region f84r19) f84b18)
def f84b21:AQ:=(.seq f84b20 f84b2)
def f84r22:LA:=[.mk none (.mov 2 (.v (.k (.c (.int .i64 6)))))]
def f84b23:AQ:=(.seq (.region f84r22) .ret)
def f84b24:AQ:=(.cond (.t 65) f84b23 .skip)
def f84r25:LA:=[.mk none (.faddr 62 7 (.t 1)),.mk none (.load 63 1 false (.t 62)),.mk none (.len 64 (.t 63)),.mk none (.bin 65 .gtr (.t 64) (.v (.k (.c (.int .i64 20)))))]
def f84b26:AQ:=(.seq (.region f84r25) f84b24)
def f84b27:AQ:=(.seq f84b26 f84b21)
def f84r28:LA:=[.mk none (.bin 61 .add (.t 14) (.v (.k (.c (.int .i64 1))))),.mk none (.mov 14 (.t 61))]
def f84r29:LA:=[.mk none (.mov 2 (.v (.k (.c (.int .i64 1)))))]
def f84b30:AQ:=(.seq (.region f84r29) .ret)
def f84b31:AQ:=(.cond (.t 60) f84b30 .skip)
def f84r32:LA:=[.mk none (.faddr 18 0 (.t 4)),.mk none (.load 19 1 false (.t 18)),.mk none (.faddr 20 0 (.t 1)),.mk none (.load 21 1 false (.t 20)),.mk none (.len 22 (.t 21)),.mk none (.call (some 23) 79 [(.t 19),(.t 22)]),.mk none (.un 24 .not (.t 23)),.mk none (.mov 25 (.t 24)),.mk (some (25,false)) (.faddr 26 1 (.t 4)),.mk (some (25,false)) (.load 27 1 false (.t 26)),.mk (some (25,false)) (.faddr 28 0 (.t 1)),.mk (some (25,false)) (.load 29 1 false (.t 28)),.mk (some (25,false)) (.len 30 (.t 29)),.mk (some (25,false)) (.call (some 31) 79 [(.t 27),(.t 30)]),.mk (some (25,false)) (.un 32 .not (.t 31)),.mk none (.pick 33 (.t 25) (.v (.k (.c (.bool true)))) (.t 32)),.mk none (.mov 34 (.t 33)),.mk (some (34,false)) (.faddr 35 0 (.t 4)),.mk (some (34,false)) (.load 36 1 false (.t 35)),.mk (some (34,false)) (.faddr 37 1 (.t 4)),.mk (some (34,false)) (.load 38 1 false (.t 37)),.mk (some (34,false)) (.bin 39 .eql (.t 36) (.t 38)),.mk none (.pick 40 (.t 34) (.v (.k (.c (.bool true)))) (.t 39)),.mk none (.mov 41 (.t 40)),.mk (some (41,false)) (.faddr 42 2 (.t 4)),.mk (some (41,false)) (.load 43 1 false (.t 42)),.mk (some (41,false)) (.bin 44 .sub (.t 43) (.v (.k (.c (.int .i64 1))))),.mk (some (41,false)) (.call (some 45) 79 [(.t 44),(.v (.k (.c (.int .i64 1073741824))))]),.mk (some (41,false)) (.un 46 .not (.t 45)),.mk none (.pick 47 (.t 41) (.v (.k (.c (.bool true)))) (.t 46)),.mk none (.mov 48 (.t 47)),.mk (some (48,false)) (.faddr 49 3 (.t 4)),.mk (some (48,false)) (.load 50 1 false (.t 49)),.mk (some (48,false)) (.bin 51 .sub (.t 50) (.v (.k (.c (.int .i64 1))))),.mk (some (48,false)) (.call (some 52) 79 [(.t 51),(.v (.k (.c (.int .i64 1073741824))))]),.mk (some (48,false)) (.un 53 .not (.t 52)),.mk none (.pick 54 (.t 48) (.v (.k (.c (.bool true)))) (.t 53)),.mk none (.mov 55 (.t 54)),.mk (some (55,false)) (.faddr 56 4 (.t 4)),.mk (some (55,false)) (.load 57 1 false (.t 56)),.mk (some (55,false)) (.call (some 58) 79 [(.t 57),(.v (.k (.c (.int .i64 100001))))]),.mk (some (55,false)) (.un 59 .not (.t 58)),.mk none (.pick 60 (.t 55) (.v (.k (.c (.bool true)))) (.t 59))]
def f84b33:AQ:=(.seq (.region f84r32) f84b31)
def f84r34:LA:=[.mk none (.iaddr 16 5 (.t 12) (.t 14)),.mk none (.load 17 5 true (.t 16)),.mk none (.alloc 4 139 [(.int .i64 0),(.int .i64 0),(.int .i64 0),(.int .i64 0),(.int .i64 0)]),.mk none (.store 5 (.t 4) (.t 17))]
def f84b35:AQ:=(.seq (.region f84r34) f84b33)
def f84b36:AQ:=(.block 1 f84b35)
def f84b37:AQ:=(.seq f84b36 (.region f84r28))
def f84b38:AQ:=(.cond (.t 15) .skip (.exit 0))
def f84b39:AQ:=(.seq f84b38 f84b37)
def f84r40:LA:=[.mk none (.bin 15 .lss (.t 14) (.t 13))]
def f84b41:AQ:=(.seq (.region f84r40) f84b39)
def f84l42:AQ:=.loop [1,12,13,14] [1] f84b41
def f84b43:AQ:=(.block 0 f84l42)
def f84r44:LA:=[.mk none (.faddr 11 6 (.t 1)),.mk none (.load 12 1 false (.t 11)),.mk none (.len 13 (.t 12)),.mk none (.mov 14 (.v (.k (.c (.int .i64 0)))))]
def f84b45:AQ:=(.seq (.region f84r44) f84b43)
def f84b46:AQ:=(.seq f84b45 f84b27)
def f84r47:LA:=[.mk none (.mov 2 (.v (.k (.c (.int .i64 6)))))]
def f84b48:AQ:=(.seq (.region f84r47) .ret)
def f84b49:AQ:=(.cond (.t 10) f84b48 .skip)
def f84r50:LA:=[.mk none (.faddr 7 6 (.t 1)),.mk none (.load 8 1 false (.t 7)),.mk none (.len 9 (.t 8)),.mk none (.bin 10 .gtr (.t 9) (.v (.k (.c (.int .i64 100)))))]
def f84b51:AQ:=(.seq (.region f84r50) f84b49)
def f84b52:AQ:=(.seq f84b51 f84b46)
def f84r53:LA:=[.mk none (.box 1 31 (.t 0)),.mk none (.mov 2 (.v (.k (.c (.int .i64 0)))))]
def f84b54:AQ:=(.seq (.region f84r53) f84b52)
def f84:AQ:=f84b54
theorem hf84:zH Tryz.prog 84=some ⟨98,f84.erase,[(RX.t 2)]⟩:=by kernel_rfl
theorem okf84:f84.ok=true:=by kernel_rfl
def f85r1:LA:=[.mk none (.mov 2 (.v (.k (.c (.int .i64 0)))))]
def f85b2:AQ:=(.seq (.region f85r1) .ret)
def f85r3:LA:=[.mk none (.mov 35 (.t 6)),.mk none (.bin 36 .add (.t 35) (.v (.k (.c (.int .i64 1))))),.mk none (.mov 6 (.t 36))]
def f85r4:LA:=[.mk none (.mov 2 (.v (.k (.c (.int .i64 1)))))]
def f85b5:AQ:=(.seq (.region f85r4) .ret)
def f85b6:AQ:=(.cond (.t 59) f85b5 .skip)
def f85r7:LA:=[.mk none (.load 52 8 true (.t 1)),.mk none (.faddr 53 1 (.t 1)),.mk none (.load 54 1 false (.t 53)),.mk none (.mov 55 (.t 6)),.mk none (.iaddr 56 6 (.t 54) (.t 55)),.mk none (.load 57 6 true (.t 56)),.mk none (.call (some 58) 111 [(.t 52),(.t 57)]),.mk none (.un 59 .not (.t 58))]
def f85b8:AQ:=(.seq (.draw f85r7 [[],[],[1],[],[2,3],[4],[0,5],[6]]) f85b6)
def f85r9:LA:=[.mk none (.mov 51 (.t 7)),.mk none (.mov 2 (.t 51))]
def f85b10:AQ:=(.seq (.region f85r9) .ret)
def f85b11:AQ:=(.cond (.t 50) f85b10 .skip)
def f85r12:LA:=[.mk none (.mov 49 (.t 7)),.mk none (.bin 50 .neq (.t 49) (.v (.k (.c (.int .i64 0)))))]
def f85b13:AQ:=(.seq (.region f85r12) f85b11)
def f85b14:AQ:=(.seq f85b13 f85b8)
def f85r15:LA:=[.mk none (.mov 46 (.t 5)),.mk none (.mov 47 (.t 6)),.mk none (.call (some 48) 110 [(.t 46),(.t 47)]),.mk none (.mov 7 (.t 48))]
def f85b16:AQ:=(.seq (.region f85r15) f85b14)
def f85r17:LA:=[.mk none (.mov 37 (.t 5)),.mk none (.faddr 38 1 (.t 1)),.mk none (.load 39 1 false (.t 38)),.mk none (.mov 40 (.t 6)),.mk none (.iaddr 41 6 (.t 39) (.t 40)),.mk none (.faddr 42 0 (.t 41)),.mk none (.load 43 1 false (.t 42)),.mk none (.bslice 44 9 1 [(.str [])] 1 [(0,(.t 43))]),.mk none (.append 45 9 1 16 (.t 37) (.t 44)),.mk none (.mov 5 (.t 45))]
def f85b18:AQ:=(.seq (.region f85r17) f85b16)
def f85b19:AQ:=(.block 3 f85b18)
def f85b20:AQ:=(.seq f85b19 (.region f85r3))
def f85b21:AQ:=(.cond (.t 34) .skip (.exit 2))
def f85r22:LA:=[.mk none (.mov 30 (.t 6)),.mk none (.faddr 31 1 (.t 1)),.mk none (.load 32 1 false (.t 31)),.mk none (.len 33 (.t 32)),.mk none (.bin 34 .lss (.t 30) (.t 33))]
def f85b23:AQ:=(.seq (.region f85r22) f85b21)
def f85b24:AQ:=(.seq f85b23 f85b20)
def f85l25:AQ:=.loop [1,5,6] [1,5,45] f85b24
def f85b26:AQ:=(.block 2 f85l25)
def f85r27:LA:=[.mk none (.mov 6 (.v (.k (.c (.int .i64 0)))))]
def f85b28:AQ:=(.seq (.region f85r27) f85b26)
def f85b29:AQ:=(.seq f85b28 f85b2)
def f85r30:LA:=[.mk none (.nilL 5 9 1)]
def f85b31:AQ:=(.seq (.region f85r30) f85b29)
def f85r32:LA:=[.mk none (.mov 2 (.v (.k (.c (.int .i64 6)))))]
def f85b33:AQ:=(.seq (.region f85r32) .ret)
def f85b34:AQ:=(.cond (.t 29) f85b33 .skip)
def f85r35:LA:=[.mk none (.faddr 26 1 (.t 1)),.mk none (.load 27 1 false (.t 26)),.mk none (.len 28 (.t 27)),.mk none (.bin 29 .gtr (.t 28) (.v (.k (.c (.int .i64 40)))))]
def f85b36:AQ:=(.seq (.region f85r35) f85b34)
def f85b37:AQ:=(.seq f85b36 f85b31)
def f85r38:LA:=[.mk none (.mov 17 (.t 3)),.mk none (.bin 18 .add (.t 17) (.v (.k (.c (.int .i64 1))))),.mk none (.mov 3 (.t 18))]
def f85r39:LA:=[.mk none (.mov 25 (.t 4)),.mk none (.mov 2 (.t 25))]
def f85b40:AQ:=(.seq (.region f85r39) .ret)
def f85b41:AQ:=(.cond (.t 24) f85b40 .skip)
def f85r42:LA:=[.mk none (.mov 23 (.t 4)),.mk none (.bin 24 .neq (.t 23) (.v (.k (.c (.int .i64 0)))))]
def f85b43:AQ:=(.seq (.region f85r42) f85b41)
def f85r44:LA:=[.mk none (.faddr 19 0 (.t 1)),.mk none (.load 20 1 false (.t 19)),.mk none (.mov 21 (.t 3)),.mk none (.call (some 22) 110 [(.t 20),(.t 21)]),.mk none (.mov 4 (.t 22))]
def f85b45:AQ:=(.seq (.region f85r44) f85b43)
def f85b46:AQ:=(.block 1 f85b45)
def f85b47:AQ:=(.seq f85b46 (.region f85r38))
def f85b48:AQ:=(.cond (.t 16) .skip (.exit 0))
def f85r49:LA:=[.mk none (.mov 12 (.t 3)),.mk none (.faddr 13 0 (.t 1)),.mk none (.load 14 1 false (.t 13)),.mk none (.len 15 (.t 14)),.mk none (.bin 16 .lss (.t 12) (.t 15))]
def f85b50:AQ:=(.seq (.region f85r49) f85b48)
def f85b51:AQ:=(.seq f85b50 f85b47)
def f85l52:AQ:=.loop [1,3] [1] f85b51
def f85b53:AQ:=(.block 0 f85l52)
def f85r54:LA:=[.mk none (.mov 3 (.v (.k (.c (.int .i64 0)))))]
def f85b55:AQ:=(.seq (.region f85r54) f85b53)
def f85b56:AQ:=(.seq f85b55 f85b37)
def f85r57:LA:=[.mk none (.mov 2 (.v (.k (.c (.int .i64 6)))))]
def f85b58:AQ:=(.seq (.region f85r57) .ret)
def f85b59:AQ:=(.cond (.t 11) f85b58 .skip)
def f85r60:LA:=[.mk none (.faddr 8 0 (.t 1)),.mk none (.load 9 1 false (.t 8)),.mk none (.len 10 (.t 9)),.mk none (.bin 11 .gtr (.t 10) (.v (.k (.c (.int .i64 8)))))]
def f85b61:AQ:=(.seq (.region f85r60) f85b59)
def f85b62:AQ:=(.seq f85b61 f85b56)
def f85r63:LA:=[.mk none (.box 1 31 (.t 0)),.mk none (.mov 2 (.v (.k (.c (.int .i64 0)))))]
def f85b64:AQ:=(.seq (.region f85r63) f85b62)
def f85:AQ:=f85b64
theorem hf85:zH Tryz.prog 85=some ⟨60,f85.erase,[(RX.t 2)]⟩:=by kernel_rfl
theorem okf85:f85.ok=true:=by kernel_rfl
def f93r1:LA:=[.mk none (.mov 15 (.t 2)),.mk none (.mov 16 (.t 3)),.mk none (.mov 17 (.t 4)),.mk none (.mov 2 (.t 15)),.mk none (.mov 3 (.t 16)),.mk none (.mov 4 (.t 17)),.mk none (.mov 5 (.v (.k (.c (.int .i64 0)))))]
def f93b2:AQ:=(.seq (.region f93r1) .ret)
def f93r3:LA:=[.mk none (.mov 10 (.t 0)),.mk none (.call (some 11) 118 [(.t 10)]),.mk none (.mov 9 (.t 11)),.mk none (.extr 12 (.t 9) 0),.mk none (.extr 13 (.t 9) 1),.mk none (.extr 14 (.t 9) 2),.mk none (.mov 2 (.t 12)),.mk none (.mov 3 (.t 13)),.mk none (.mov 4 (.t 14))]
def f93b4:AQ:=(.seq (.region f93r3) f93b2)
def f93r5:LA:=[.mk none (.mov 2 (.v (.k (.c (.int .i64 0))))),.mk none (.mov 3 (.v (.k (.c (.int .i64 0))))),.mk none (.mov 4 (.v (.k (.c (.int .i64 0))))),.mk none (.mov 5 (.v (.k (.c (.int .i64 3)))))]
def f93b6:AQ:=(.seq (.region f93r5) .ret)
def f93b7:AQ:=(.cond (.t 8) f93b6 .skip)
def f93r8:LA:=[.mk none (.mov 6 (.t 0)),.mk none (.call (some 7) 117 [(.t 6)]),.mk none (.un 8 .not (.t 7))]
def f93b9:AQ:=(.seq (.region f93r8) f93b7)
def f93b10:AQ:=(.seq f93b9 f93b4)
def f93r11:LA:=[.mk none (.mov 2 (.v (.k (.c (.int .i64 0))))),.mk none (.mov 3 (.v (.k (.c (.int .i64 0))))),.mk none (.mov 4 (.v (.k (.c (.int .i64 0))))),.mk none (.mov 5 (.v (.k (.c (.int .i64 0)))))]
def f93b12:AQ:=(.seq (.region f93r11) f93b10)
def f93:AQ:=f93b12
theorem hf93:zH Tryz.prog 93=some ⟨18,f93.erase,[(RX.t 2),(RX.t 3),(RX.t 4),(RX.t 5)]⟩:=by kernel_rfl
theorem okf93:f93.ok=true:=by kernel_rfl
def f100r1:LA:=[.mk none (.mov 4 (.v (.k (.c (.int .i64 (-1))))))]
def f100b2:AQ:=(.seq (.region f100r1) .ret)
def f100r3:LA:=[.mk none (.bin 18 .add (.t 8) (.v (.k (.c (.int .i64 1))))),.mk none (.mov 8 (.t 18))]
def f100r4:LA:=[.mk none (.mov 17 (.t 5)),.mk none (.mov 4 (.t 17))]
def f100b5:AQ:=(.seq (.region f100r4) .ret)
def f100b6:AQ:=(.cond (.t 16) f100b5 .skip)
def f100r7:LA:=[.mk none (.mov 11 (.t 1)),.mk none (.mov 12 (.t 0)),.mk none (.mov 13 (.t 5)),.mk none (.iaddr 14 6 (.t 12) (.t 13)),.mk none (.load 15 6 true (.t 14)),.mk none (.callv (some 16) (.t 11) [(.t 15)])]
def f100b8:AQ:=(.seq (.region f100r7) f100b6)
def f100r9:LA:=[.mk none (.mov 10 (.t 8)),.mk none (.mov 5 (.t 10))]
def f100b10:AQ:=(.seq (.region f100r9) f100b8)
def f100b11:AQ:=(.block 1 f100b10)
def f100b12:AQ:=(.seq f100b11 (.region f100r3))
def f100b13:AQ:=(.cond (.t 9) .skip (.exit 0))
def f100b14:AQ:=(.seq f100b13 f100b12)
def f100r15:LA:=[.mk none (.bin 9 .lss (.t 8) (.t 7))]
def f100b16:AQ:=(.seq (.region f100r15) f100b14)
def f100l17:AQ:=.loop [0,1,7,8] [] f100b16
def f100b18:AQ:=(.block 0 f100l17)
def f100r19:LA:=[.mk none (.mov 6 (.t 0)),.mk none (.len 7 (.t 6)),.mk none (.mov 8 (.v (.k (.c (.int .i64 0)))))]
def f100b20:AQ:=(.seq (.region f100r19) f100b18)
def f100b21:AQ:=(.seq f100b20 f100b2)
def f100r22:LA:=[.mk none (.mov 4 (.v (.k (.c (.int .i64 0)))))]
def f100b23:AQ:=(.seq (.region f100r22) f100b21)
def f100:AQ:=f100b23
theorem hf100:zH Tryz.prog 100=some ⟨19,f100.erase,[(RX.t 4)]⟩:=by kernel_rfl
theorem okf100:f100.ok=true:=by kernel_rfl
def f101r1:LA:=[.mk none (.faddr 4 0 (.t 2)),.mk none (.load 5 1 false (.t 4)),.mk none (.load 6 1 false (.t 1)),.mk none (.bin 7 .eql (.t 5) (.t 6)),.mk none (.mov 3 (.t 7))]
def f101b2:AQ:=(.seq (.region f101r1) .ret)
def f101r3:LA:=[.mk none (.box 2 91 (.t 0)),.mk none (.mov 3 (.v (.k (.c (.bool false)))))]
def f101b4:AQ:=(.seq (.region f101r3) f101b2)
def f101:AQ:=f101b4
theorem hf101:zH Tryz.prog 101=some ⟨8,f101.erase,[(RX.t 3)]⟩:=by kernel_rfl
theorem okf101:f101.ok=true:=by kernel_rfl
def f102r1:LA:=[.mk none (.mov 41 (.t 8)),.mk none (.mov 6 (.t 41)),.mk none (.mov 7 (.v (.k (.c (.int .i64 0)))))]
def f102b2:AQ:=(.seq (.region f102r1) .ret)
def f102r3:LA:=[.mk none (.mov 6 (.v (.k (.c (.int .i64 0))))),.mk none (.mov 7 (.v (.k (.c (.int .i64 3)))))]
def f102b4:AQ:=(.seq (.region f102r3) .ret)
def f102b5:AQ:=(.cond (.t 40) f102b4 .skip)
def f102r6:LA:=[.mk none (.mov 38 (.t 8)),.mk none (.call (some 39) 117 [(.t 38)]),.mk none (.un 40 .not (.t 39))]
def f102b7:AQ:=(.seq (.region f102r6) f102b5)
def f102b8:AQ:=(.seq f102b7 f102b2)
def f102r9:LA:=[.mk none (.mov 34 (.t 0)),.mk none (.mov 35 (.t 1)),.mk none (.mov 36 (.t 2)),.mk none (.call (some 37) 125 [(.t 34),(.t 35),(.t 36)]),.mk none (.mov 8 (.t 37))]
def f102b10:AQ:=(.seq (.region f102r9) f102b8)
def f102r11:LA:=[.mk none (.mov 6 (.v (.k (.c (.int .i64 0))))),.mk none (.mov 7 (.v (.k (.c (.int .i64 3)))))]
def f102b12:AQ:=(.seq (.region f102r11) .ret)
def f102b13:AQ:=(.cond (.t 33) f102b12 .skip)
def f102r14:LA:=[.mk none (.mov 9 (.t 0)),.mk none (.bin 10 .lss (.t 9) (.v (.k (.c (.int .i64 2000))))),.mk none (.mov 11 (.t 10)),.mk (some (11,false)) (.mov 12 (.t 0)),.mk (some (11,false)) (.bin 13 .gtr (.t 12) (.v (.k (.c (.int .i64 2300))))),.mk none (.pick 14 (.t 11) (.v (.k (.c (.bool true)))) (.t 13)),.mk none (.mov 15 (.t 14)),.mk (some (15,false)) (.mov 16 (.t 1)),.mk (some (15,false)) (.bin 17 .lss (.t 16) (.v (.k (.c (.int .i64 1))))),.mk none (.pick 18 (.t 15) (.v (.k (.c (.bool true)))) (.t 17)),.mk none (.mov 19 (.t 18)),.mk (some (19,false)) (.mov 20 (.t 1)),.mk (some (19,false)) (.bin 21 .gtr (.t 20) (.v (.k (.c (.int .i64 12))))),.mk none (.pick 22 (.t 19) (.v (.k (.c (.bool true)))) (.t 21)),.mk none (.mov 23 (.t 22)),.mk (some (23,false)) (.mov 24 (.t 2)),.mk (some (23,false)) (.bin 25 .lss (.t 24) (.v (.k (.c (.int .i64 1))))),.mk none (.pick 26 (.t 23) (.v (.k (.c (.bool true)))) (.t 25)),.mk none (.mov 27 (.t 26)),.mk (some (27,false)) (.mov 28 (.t 2)),.mk (some (27,false)) (.mov 29 (.t 0)),.mk (some (27,false)) (.mov 30 (.t 1)),.mk (some (27,false)) (.call (some 31) 124 [(.t 29),(.t 30)]),.mk (some (27,false)) (.bin 32 .gtr (.t 28) (.t 31)),.mk none (.pick 33 (.t 27) (.v (.k (.c (.bool true)))) (.t 32))]
def f102b15:AQ:=(.seq (.region f102r14) f102b13)
def f102b16:AQ:=(.seq f102b15 f102b10)
def f102r17:LA:=[.mk none (.mov 6 (.v (.k (.c (.int .i64 0))))),.mk none (.mov 7 (.v (.k (.c (.int .i64 0)))))]
def f102b18:AQ:=(.seq (.region f102r17) f102b16)
def f102:AQ:=f102b18
theorem hf102:zH Tryz.prog 102=some ⟨42,f102.erase,[(RX.t 6),(RX.t 7)]⟩:=by kernel_rfl
theorem okf102:f102.ok=true:=by kernel_rfl
def f104r1:LA:=[.mk none (.mov 4 (.v (.k (.c (.int .i64 (-1))))))]
def f104b2:AQ:=(.seq (.region f104r1) .ret)
def f104r3:LA:=[.mk none (.bin 18 .add (.t 8) (.v (.k (.c (.int .i64 1))))),.mk none (.mov 8 (.t 18))]
def f104r4:LA:=[.mk none (.mov 17 (.t 5)),.mk none (.mov 4 (.t 17))]
def f104b5:AQ:=(.seq (.region f104r4) .ret)
def f104b6:AQ:=(.cond (.t 16) f104b5 .skip)
def f104r7:LA:=[.mk none (.mov 11 (.t 1)),.mk none (.mov 12 (.t 0)),.mk none (.mov 13 (.t 5)),.mk none (.iaddr 14 3 (.t 12) (.t 13)),.mk none (.load 15 3 true (.t 14)),.mk none (.callv (some 16) (.t 11) [(.t 15)])]
def f104b8:AQ:=(.seq (.region f104r7) f104b6)
def f104r9:LA:=[.mk none (.mov 10 (.t 8)),.mk none (.mov 5 (.t 10))]
def f104b10:AQ:=(.seq (.region f104r9) f104b8)
def f104b11:AQ:=(.block 1 f104b10)
def f104b12:AQ:=(.seq f104b11 (.region f104r3))
def f104b13:AQ:=(.cond (.t 9) .skip (.exit 0))
def f104b14:AQ:=(.seq f104b13 f104b12)
def f104r15:LA:=[.mk none (.bin 9 .lss (.t 8) (.t 7))]
def f104b16:AQ:=(.seq (.region f104r15) f104b14)
def f104l17:AQ:=.loop [0,1,7,8] [] f104b16
def f104b18:AQ:=(.block 0 f104l17)
def f104r19:LA:=[.mk none (.mov 6 (.t 0)),.mk none (.len 7 (.t 6)),.mk none (.mov 8 (.v (.k (.c (.int .i64 0)))))]
def f104b20:AQ:=(.seq (.region f104r19) f104b18)
def f104b21:AQ:=(.seq f104b20 f104b2)
def f104r22:LA:=[.mk none (.mov 4 (.v (.k (.c (.int .i64 0)))))]
def f104b23:AQ:=(.seq (.region f104r22) f104b21)
def f104:AQ:=f104b23
theorem hf104:zH Tryz.prog 104=some ⟨19,f104.erase,[(RX.t 4)]⟩:=by kernel_rfl
theorem okf104:f104.ok=true:=by kernel_rfl
def f105r1:LA:=[.mk none (.faddr 4 0 (.t 2)),.mk none (.load 5 1 false (.t 4)),.mk none (.load 6 1 false (.t 1)),.mk none (.bin 7 .eql (.t 5) (.t 6)),.mk none (.mov 3 (.t 7))]
def f105b2:AQ:=(.seq (.region f105r1) .ret)
def f105r3:LA:=[.mk none (.box 2 94 (.t 0)),.mk none (.mov 3 (.v (.k (.c (.bool false)))))]
def f105b4:AQ:=(.seq (.region f105r3) f105b2)
def f105:AQ:=f105b4
theorem hf105:zH Tryz.prog 105=some ⟨8,f105.erase,[(RX.t 3)]⟩:=by kernel_rfl
theorem okf105:f105.ok=true:=by kernel_rfl
def f108r1:LA:=[.mk none (.mov 4 (.v (.k (.c (.int .i64 0)))))]
def f108b2:AQ:=(.seq (.region f108r1) .ret)
def f108r3:LA:=[.mk none (.mov 4 (.v (.k (.c (.int .i64 5)))))]
def f108b4:AQ:=(.seq (.region f108r3) .ret)
def f108b5:AQ:=(.cond (.t 18) f108b4 .skip)
def f108r6:LA:=[.mk none (.mov 11 (.t 0)),.mk none (.mov 12 (.t 1)),.mk none (.slice 13 1 (.t 11) none (some (.t 12))),.mk none (.mov 14 (.t 0)),.mk none (.mov 15 (.t 1)),.mk none (.iaddr 16 1 (.t 14) (.t 15)),.mk none (.load 17 1 false (.t 16)),.mk none (.call (some 18) 130 [(.t 13),(.t 17)])]
def f108b7:AQ:=(.seq (.draw f108r6 [[],[],[0,1],[],[],[3,4],[5],[2,6]]) f108b5)
def f108b8:AQ:=(.seq f108b7 f108b2)
def f108r9:LA:=[.mk none (.mov 4 (.v (.k (.c (.int .i64 2)))))]
def f108b10:AQ:=(.seq (.region f108r9) .ret)
def f108b11:AQ:=(.cond (.t 10) f108b10 .skip)
def f108r12:LA:=[.mk none (.mov 5 (.t 0)),.mk none (.mov 6 (.t 1)),.mk none (.iaddr 7 1 (.t 5) (.t 6)),.mk none (.load 8 1 false (.t 7)),.mk none (.call (some 9) 129 [(.t 8)]),.mk none (.un 10 .not (.t 9))]
def f108b13:AQ:=(.seq (.region f108r12) f108b11)
def f108b14:AQ:=(.seq f108b13 f108b8)
def f108r15:LA:=[.mk none (.mov 4 (.v (.k (.c (.int .i64 0)))))]
def f108b16:AQ:=(.seq (.region f108r15) f108b14)
def f108:AQ:=f108b16
theorem hf108:zH Tryz.prog 108=some ⟨19,f108.erase,[(RX.t 4)]⟩:=by kernel_rfl
theorem okf108:f108.ok=true:=by kernel_rfl
def f109r1:LA:=[.mk none (.mov 6 (.v (.k (.c (.bool true)))))]
def f109b2:AQ:=(.seq (.region f109r1) .ret)
def f109r3:LA:=[.mk none (.bin 37 .add (.t 11) (.v (.k (.c (.int .i64 1))))),.mk none (.mov 11 (.t 37))]
def f109r4:LA:=[.mk none (.mov 6 (.v (.k (.c (.bool false)))))]
def f109b5:AQ:=(.seq (.region f109r4) .ret)
def f109b6:AQ:=(.cond (.t 36) f109b5 .skip)
def f109r7:LA:=[.mk none (.mov 16 (.t 8)),.mk none (.mov 17 (.t 1)),.mk none (.bin 18 .lss (.t 16) (.t 17)),.mk none (.mov 19 (.t 18)),.mk (some (19,false)) (.mov 20 (.t 8)),.mk (some (19,false)) (.mov 21 (.t 2)),.mk (some (19,false)) (.bin 22 .gtr (.t 20) (.t 21)),.mk none (.pick 23 (.t 19) (.v (.k (.c (.bool true)))) (.t 22)),.mk none (.mov 24 (.t 23)),.mk (some (24,false)) (.mov 25 (.t 7)),.mk (some (24,false)) (.bin 26 .gtr (.t 25) (.v (.k (.c (.int .i64 0))))),.mk (some (24,false)) (.mov 27 (.t 26)),.mk (some (27,true)) (.mov 28 (.t 8)),.mk (some (27,true)) (.mov 29 (.t 0)),.mk (some (27,true)) (.mov 30 (.t 7)),.mk (some (27,true)) (.bin 31 .sub (.t 30) (.v (.k (.c (.int .i64 1))))),.mk (some (27,true)) (.iaddr 32 1 (.t 29) (.t 31)),.mk (some (27,true)) (.load 33 1 false (.t 32)),.mk (some (27,true)) (.bin 34 .leq (.t 28) (.t 33)),.mk (some (24,false)) (.pick 35 (.t 27) (.t 34) (.v (.k (.c (.bool false))))),.mk none (.pick 36 (.t 24) (.v (.k (.c (.bool true)))) (.t 35))]
def f109b8:AQ:=(.seq (.region f109r7) f109b6)
def f109r9:LA:=[.mk none (.mov 13 (.t 11)),.mk none (.iaddr 14 1 (.t 9) (.t 11)),.mk none (.load 15 1 false (.t 14)),.mk none (.mov 7 (.t 13)),.mk none (.mov 8 (.t 15))]
def f109b10:AQ:=(.seq (.region f109r9) f109b8)
def f109b11:AQ:=(.block 1 f109b10)
def f109b12:AQ:=(.seq f109b11 (.region f109r3))
def f109b13:AQ:=(.cond (.t 12) .skip (.exit 0))
def f109b14:AQ:=(.seq f109b13 f109b12)
def f109r15:LA:=[.mk none (.bin 12 .lss (.t 11) (.t 10))]
def f109b16:AQ:=(.seq (.region f109r15) f109b14)
def f109l17:AQ:=.loop [0,1,2,9,10,11] [] f109b16
def f109b18:AQ:=(.block 0 f109l17)
def f109r19:LA:=[.mk none (.mov 9 (.t 0)),.mk none (.len 10 (.t 9)),.mk none (.mov 11 (.v (.k (.c (.int .i64 0)))))]
def f109b20:AQ:=(.seq (.region f109r19) f109b18)
def f109b21:AQ:=(.seq f109b20 f109b2)
def f109r22:LA:=[.mk none (.mov 6 (.v (.k (.c (.bool false)))))]
def f109b23:AQ:=(.seq (.region f109r22) f109b21)
def f109:AQ:=f109b23
theorem hf109:zH Tryz.prog 109=some ⟨38,f109.erase,[(RX.t 6)]⟩:=by kernel_rfl
theorem okf109:f109.ok=true:=by kernel_rfl
def f110r1:LA:=[.mk none (.mov 4 (.v (.k (.c (.int .i64 0)))))]
def f110b2:AQ:=(.seq (.region f110r1) .ret)
def f110r3:LA:=[.mk none (.mov 4 (.v (.k (.c (.int .i64 5)))))]
def f110b4:AQ:=(.seq (.region f110r3) .ret)
def f110b5:AQ:=(.cond (.t 17) f110b4 .skip)
def f110r6:LA:=[.mk none (.mov 11 (.t 0)),.mk none (.mov 12 (.t 1)),.mk none (.mov 13 (.t 0)),.mk none (.mov 14 (.t 1)),.mk none (.iaddr 15 1 (.t 13) (.t 14)),.mk none (.load 16 1 false (.t 15)),.mk none (.call (some 17) 132 [(.t 11),(.t 12),(.t 16)])]
def f110b7:AQ:=(.seq (.region f110r6) f110b5)
def f110b8:AQ:=(.seq f110b7 f110b2)
def f110r9:LA:=[.mk none (.mov 4 (.v (.k (.c (.int .i64 2)))))]
def f110b10:AQ:=(.seq (.region f110r9) .ret)
def f110b11:AQ:=(.cond (.t 10) f110b10 .skip)
def f110r12:LA:=[.mk none (.mov 5 (.t 0)),.mk none (.mov 6 (.t 1)),.mk none (.iaddr 7 1 (.t 5) (.t 6)),.mk none (.load 8 1 false (.t 7)),.mk none (.call (some 9) 131 [(.t 8)]),.mk none (.un 10 .not (.t 9))]
def f110b13:AQ:=(.seq (.region f110r12) f110b11)
def f110b14:AQ:=(.seq f110b13 f110b8)
def f110r15:LA:=[.mk none (.mov 4 (.v (.k (.c (.int .i64 0)))))]
def f110b16:AQ:=(.seq (.region f110r15) f110b14)
def f110:AQ:=f110b16
theorem hf110:zH Tryz.prog 110=some ⟨18,f110.erase,[(RX.t 4)]⟩:=by kernel_rfl
theorem okf110:f110.ok=true:=by kernel_rfl
def f111r1:LA:=[.mk none (.faddr 61 3 (.t 3)),.mk none (.load 62 1 false (.t 61)),.mk none (.call (some 63) 133 [(.t 62),(.v (.k (.c (.int .i64 0)))),(.v (.k (.c (.int .i64 6))))]),.mk none (.mov 64 (.t 63)),.mk (some (64,true)) (.faddr 65 4 (.t 3)),.mk (some (64,true)) (.load 66 1 false (.t 65)),.mk (some (64,true)) (.call (some 67) 133 [(.t 66),(.v (.k (.c (.int .i64 0)))),(.v (.k (.c (.int .i64 2000))))]),.mk none (.pick 68 (.t 64) (.t 67) (.v (.k (.c (.bool false))))),.mk none (.mov 69 (.t 68)),.mk (some (69,true)) (.faddr 70 5 (.t 3)),.mk (some (69,true)) (.load 71 1 false (.t 70)),.mk (some (69,true)) (.call (some 72) 133 [(.t 71),(.v (.k (.c (.int .i64 0)))),(.v (.k (.c (.int .i64 100000))))]),.mk none (.pick 73 (.t 69) (.t 72) (.v (.k (.c (.bool false))))),.mk none (.mov 4 (.t 73))]
def f111b2:AQ:=(.seq (.region f111r1) .ret)
def f111r3:LA:=[.mk none (.mov 41 (.t 5)),.mk none (.bin 42 .add (.t 41) (.v (.k (.c (.int .i64 1))))),.mk none (.mov 5 (.t 42))]
def f111r4:LA:=[.mk none (.mov 4 (.v (.k (.c (.bool false)))))]
def f111b5:AQ:=(.seq (.region f111r4) .ret)
def f111b6:AQ:=(.cond (.t 60) f111b5 .skip)
def f111r7:LA:=[.mk none (.faddr 43 4 (.t 3)),.mk none (.load 44 1 false (.t 43)),.mk none (.mov 45 (.t 5)),.mk none (.iaddr 46 1 (.t 44) (.t 45)),.mk none (.load 47 1 false (.t 46)),.mk none (.bin 48 .quo (.t 47) (.v (.k (.c (.int .i64 100))))),.mk none (.call (some 49) 112 [(.t 48),(.v (.k (.c (.int .i64 1)))),(.v (.k (.c (.int .i64 12))))]),.mk none (.un 50 .not (.t 49)),.mk none (.mov 51 (.t 50)),.mk (some (51,false)) (.faddr 52 4 (.t 3)),.mk (some (51,false)) (.load 53 1 false (.t 52)),.mk (some (51,false)) (.mov 54 (.t 5)),.mk (some (51,false)) (.iaddr 55 1 (.t 53) (.t 54)),.mk (some (51,false)) (.load 56 1 false (.t 55)),.mk (some (51,false)) (.bin 57 .rem (.t 56) (.v (.k (.c (.int .i64 100))))),.mk (some (51,false)) (.call (some 58) 112 [(.t 57),(.v (.k (.c (.int .i64 1)))),(.v (.k (.c (.int .i64 31))))]),.mk (some (51,false)) (.un 59 .not (.t 58)),.mk none (.pick 60 (.t 51) (.v (.k (.c (.bool true)))) (.t 59))]
def f111b8:AQ:=(.seq (.region f111r7) f111b6)
def f111b9:AQ:=(.block 1 f111b8)
def f111b10:AQ:=(.seq f111b9 (.region f111r3))
def f111b11:AQ:=(.cond (.t 40) .skip (.exit 0))
def f111r12:LA:=[.mk none (.mov 36 (.t 5)),.mk none (.faddr 37 4 (.t 3)),.mk none (.load 38 1 false (.t 37)),.mk none (.len 39 (.t 38)),.mk none (.bin 40 .lss (.t 36) (.t 39))]
def f111b13:AQ:=(.seq (.region f111r12) f111b11)
def f111b14:AQ:=(.seq f111b13 f111b10)
def f111l15:AQ:=.loop [3,5] [3] f111b14
def f111b16:AQ:=(.block 0 f111l15)
def f111r17:LA:=[.mk none (.mov 5 (.v (.k (.c (.int .i64 0)))))]
def f111b18:AQ:=(.seq (.region f111r17) f111b16)
def f111b19:AQ:=(.seq f111b18 f111b2)
def f111r20:LA:=[.mk none (.mov 4 (.v (.k (.c (.bool false)))))]
def f111b21:AQ:=(.seq (.region f111r20) .ret)
def f111b22:AQ:=(.cond (.t 35) f111b21 .skip)
def f111r23:LA:=[.mk none (.faddr 6 1 (.t 3)),.mk none (.load 7 1 false (.t 6)),.mk none (.faddr 8 4 (.t 2)),.mk none (.load 9 1 false (.t 8)),.mk none (.len 10 (.t 9)),.mk none (.bin 11 .sub (.t 10) (.v (.k (.c (.int .i64 1))))),.mk none (.call (some 12) 112 [(.t 7),(.v (.k (.c (.int .i64 0)))),(.t 11)]),.mk none (.un 13 .not (.t 12)),.mk none (.mov 14 (.t 13)),.mk (some (14,false)) (.faddr 15 2 (.t 3)),.mk (some (14,false)) (.load 16 1 false (.t 15)),.mk (some (14,false)) (.faddr 17 0 (.t 2)),.mk (some (14,false)) (.load 18 1 false (.t 17)),.mk (some (14,false)) (.len 19 (.t 18)),.mk (some (14,false)) (.bin 20 .sub (.t 19) (.v (.k (.c (.int .i64 1))))),.mk (some (14,false)) (.call (some 21) 112 [(.t 16),(.v (.k (.c (.int .i64 0)))),(.t 20)]),.mk (some (14,false)) (.un 22 .not (.t 21)),.mk none (.pick 23 (.t 14) (.v (.k (.c (.bool true)))) (.t 22)),.mk none (.mov 24 (.t 23)),.mk (some (24,false)) (.faddr 25 4 (.t 3)),.mk (some (24,false)) (.load 26 1 false (.t 25)),.mk (some (24,false)) (.len 27 (.t 26)),.mk (some (24,false)) (.bin 28 .gtr (.t 27) (.v (.k (.c (.int .i64 60))))),.mk none (.pick 29 (.t 24) (.v (.k (.c (.bool true)))) (.t 28)),.mk none (.mov 30 (.t 29)),.mk (some (30,false)) (.faddr 31 5 (.t 3)),.mk (some (30,false)) (.load 32 1 false (.t 31)),.mk (some (30,false)) (.len 33 (.t 32)),.mk (some (30,false)) (.bin 34 .gtr (.t 33) (.v (.k (.c (.int .i64 200))))),.mk none (.pick 35 (.t 30) (.v (.k (.c (.bool true)))) (.t 34))]
def f111b24:AQ:=(.seq (.region f111r23) f111b22)
def f111b25:AQ:=(.seq f111b24 f111b19)
def f111r26:LA:=[.mk none (.box 2 31 (.t 0)),.mk none (.box 3 91 (.t 1)),.mk none (.mov 4 (.v (.k (.c (.bool false)))))]
def f111b27:AQ:=(.seq (.region f111r26) f111b25)
def f111:AQ:=f111b27
theorem hf111:zH Tryz.prog 111=some ⟨74,f111.erase,[(RX.t 4)]⟩:=by kernel_rfl
theorem okf111:f111.ok=true:=by kernel_rfl
def f112r1:LA:=[.mk none (.mov 7 (.t 1)),.mk none (.mov 8 (.t 0)),.mk none (.bin 9 .leq (.t 7) (.t 8)),.mk none (.mov 10 (.t 9)),.mk (some (10,true)) (.mov 11 (.t 0)),.mk (some (10,true)) (.mov 12 (.t 2)),.mk (some (10,true)) (.bin 13 .leq (.t 11) (.t 12)),.mk none (.pick 14 (.t 10) (.t 13) (.v (.k (.c (.bool false))))),.mk none (.mov 6 (.t 14))]
def f112b2:AQ:=(.seq (.region f112r1) .ret)
def f112r3:LA:=[.mk none (.mov 6 (.v (.k (.c (.bool false)))))]
def f112b4:AQ:=(.seq (.region f112r3) f112b2)
def f112:AQ:=f112b4
theorem hf112:zH Tryz.prog 112=some ⟨15,f112.erase,[(RX.t 6)]⟩:=by kernel_rfl
theorem okf112:f112.ok=true:=by kernel_rfl
def f117r1:LA:=[.mk none (.mov 3 (.t 0)),.mk none (.bin 4 .leq (.v (.k (.c (.int .i64 0)))) (.t 3)),.mk none (.mov 5 (.t 4)),.mk (some (5,true)) (.mov 6 (.t 0)),.mk (some (5,true)) (.bin 7 .leq (.t 6) (.v (.k (.c (.int .i64 100000))))),.mk none (.pick 8 (.t 5) (.t 7) (.v (.k (.c (.bool false))))),.mk none (.mov 2 (.t 8))]
def f117b2:AQ:=(.seq (.region f117r1) .ret)
def f117r3:LA:=[.mk none (.mov 2 (.v (.k (.c (.bool false)))))]
def f117b4:AQ:=(.seq (.region f117r3) f117b2)
def f117:AQ:=f117b4
theorem hf117:zH Tryz.prog 117=some ⟨9,f117.erase,[(RX.t 2)]⟩:=by kernel_rfl
theorem okf117:f117.ok=true:=by kernel_rfl
def f118r1:LA:=[.mk none (.mov 62 (.t 2)),.mk none (.mov 63 (.t 3)),.mk none (.mov 64 (.t 4)),.mk none (.mov 2 (.t 62)),.mk none (.mov 3 (.t 63)),.mk none (.mov 4 (.t 64))]
def f118b2:AQ:=(.seq (.region f118r1) .ret)
def f118r3:LA:=[.mk none (.mov 60 (.t 2)),.mk none (.bin 61 .add (.t 60) (.v (.k (.c (.int .i64 1))))),.mk none (.mov 2 (.t 61))]
def f118b4:AQ:=(.cond (.t 59) (.region f118r3) .skip)
def f118r5:LA:=[.mk none (.mov 58 (.t 3)),.mk none (.bin 59 .lss (.t 58) (.v (.k (.c (.int .i64 3)))))]
def f118b6:AQ:=(.seq (.region f118r5) f118b4)
def f118b7:AQ:=(.seq f118b6 f118b2)
def f118r8:LA:=[.mk none (.mov 54 (.t 8)),.mk none (.mov 55 (.t 6)),.mk none (.bin 56 .mul (.v (.k (.c (.int .i64 400)))) (.t 55)),.mk none (.bin 57 .add (.t 54) (.t 56)),.mk none (.mov 2 (.t 57))]
def f118b9:AQ:=(.seq (.region f118r8) f118b7)
def f118r10:LA:=[.mk none (.mov 52 (.t 3)),.mk none (.bin 53 .sub (.t 52) (.v (.k (.c (.int .i64 12))))),.mk none (.mov 3 (.t 53))]
def f118b11:AQ:=(.cond (.t 51) (.region f118r10) .skip)
def f118r12:LA:=[.mk none (.mov 50 (.t 3)),.mk none (.bin 51 .gtr (.t 50) (.v (.k (.c (.int .i64 12)))))]
def f118b13:AQ:=(.seq (.region f118r12) f118b11)
def f118b14:AQ:=(.seq f118b13 f118b9)
def f118r15:LA:=[.mk none (.mov 48 (.t 9)),.mk none (.bin 49 .add (.t 48) (.v (.k (.c (.int .i64 3))))),.mk none (.mov 3 (.t 49))]
def f118b16:AQ:=(.seq (.region f118r15) f118b14)
def f118r17:LA:=[.mk none (.mov 41 (.t 7)),.mk none (.mov 42 (.t 9)),.mk none (.bin 43 .mul (.v (.k (.c (.int .i64 153)))) (.t 42)),.mk none (.bin 44 .add (.t 43) (.v (.k (.c (.int .i64 2))))),.mk none (.bin 45 .quo (.t 44) (.v (.k (.c (.int .i64 5))))),.mk none (.bin 46 .sub (.t 41) (.t 45)),.mk none (.bin 47 .add (.t 46) (.v (.k (.c (.int .i64 1))))),.mk none (.mov 4 (.t 47))]
def f118b18:AQ:=(.seq (.region f118r17) f118b16)
def f118r19:LA:=[.mk none (.mov 37 (.t 7)),.mk none (.bin 38 .mul (.v (.k (.c (.int .i64 5)))) (.t 37)),.mk none (.bin 39 .add (.t 38) (.v (.k (.c (.int .i64 2))))),.mk none (.bin 40 .quo (.t 39) (.v (.k (.c (.int .i64 153))))),.mk none (.mov 9 (.t 40))]
def f118b20:AQ:=(.seq (.region f118r19) f118b18)
def f118r21:LA:=[.mk none (.mov 27 (.t 7)),.mk none (.mov 28 (.t 8)),.mk none (.bin 29 .mul (.v (.k (.c (.int .i64 365)))) (.t 28)),.mk none (.mov 30 (.t 8)),.mk none (.bin 31 .quo (.t 30) (.v (.k (.c (.int .i64 4))))),.mk none (.bin 32 .add (.t 29) (.t 31)),.mk none (.mov 33 (.t 8)),.mk none (.bin 34 .quo (.t 33) (.v (.k (.c (.int .i64 100))))),.mk none (.bin 35 .sub (.t 32) (.t 34)),.mk none (.bin 36 .sub (.t 27) (.t 35)),.mk none (.mov 7 (.t 36))]
def f118b22:AQ:=(.seq (.region f118r21) f118b20)
def f118r23:LA:=[.mk none (.mov 16 (.t 7)),.mk none (.mov 17 (.t 7)),.mk none (.bin 18 .quo (.t 17) (.v (.k (.c (.int .i64 1460))))),.mk none (.bin 19 .sub (.t 16) (.t 18)),.mk none (.mov 20 (.t 7)),.mk none (.bin 21 .quo (.t 20) (.v (.k (.c (.int .i64 36524))))),.mk none (.bin 22 .add (.t 19) (.t 21)),.mk none (.mov 23 (.t 7)),.mk none (.bin 24 .quo (.t 23) (.v (.k (.c (.int .i64 146096))))),.mk none (.bin 25 .sub (.t 22) (.t 24)),.mk none (.bin 26 .quo (.t 25) (.v (.k (.c (.int .i64 365))))),.mk none (.mov 8 (.t 26))]
def f118b24:AQ:=(.seq (.region f118r23) f118b22)
def f118r25:LA:=[.mk none (.mov 12 (.t 5)),.mk none (.bin 13 .quo (.t 12) (.v (.k (.c (.int .i64 146097))))),.mk none (.mov 14 (.t 5)),.mk none (.bin 15 .rem (.t 14) (.v (.k (.c (.int .i64 146097))))),.mk none (.mov 6 (.t 13)),.mk none (.mov 7 (.t 15))]
def f118b26:AQ:=(.seq (.region f118r25) f118b24)
def f118r27:LA:=[.mk none (.mov 10 (.t 0)),.mk none (.bin 11 .add (.t 10) (.v (.k (.c (.int .i64 730425))))),.mk none (.mov 5 (.t 11))]
def f118b28:AQ:=(.seq (.region f118r27) f118b26)
def f118r29:LA:=[.mk none (.mov 2 (.v (.k (.c (.int .i64 0))))),.mk none (.mov 3 (.v (.k (.c (.int .i64 0))))),.mk none (.mov 4 (.v (.k (.c (.int .i64 0)))))]
def f118b30:AQ:=(.seq (.region f118r29) f118b28)
def f118:AQ:=f118b30
theorem hf118:zH Tryz.prog 118=some ⟨65,f118.erase,[(RX.t 2),(RX.t 3),(RX.t 4)]⟩:=by kernel_rfl
theorem okf118:f118.ok=true:=by kernel_rfl
def f124r1:LA:=[.mk none (.mov 7 (.t 0)),.mk none (.mov 8 (.t 1)),.mk none (.bin 9 .add (.t 8) (.v (.k (.c (.int .i64 1))))),.mk none (.call (some 10) 125 [(.t 7),(.t 9),(.v (.k (.c (.int .i64 1))))]),.mk none (.mov 11 (.t 0)),.mk none (.mov 12 (.t 1)),.mk none (.call (some 13) 125 [(.t 11),(.t 12),(.v (.k (.c (.int .i64 1))))]),.mk none (.bin 14 .sub (.t 10) (.t 13)),.mk none (.mov 4 (.t 14))]
def f124b2:AQ:=(.seq (.region f124r1) .ret)
def f124r3:LA:=[.mk none (.mov 4 (.v (.k (.c (.int .i64 31)))))]
def f124b4:AQ:=(.seq (.region f124r3) .ret)
def f124b5:AQ:=(.cond (.t 6) f124b4 .skip)
def f124r6:LA:=[.mk none (.mov 5 (.t 1)),.mk none (.bin 6 .eql (.t 5) (.v (.k (.c (.int .i64 12)))))]
def f124b7:AQ:=(.seq (.region f124r6) f124b5)
def f124b8:AQ:=(.seq f124b7 f124b2)
def f124r9:LA:=[.mk none (.mov 4 (.v (.k (.c (.int .i64 0)))))]
def f124b10:AQ:=(.seq (.region f124r9) f124b8)
def f124:AQ:=f124b10
theorem hf124:zH Tryz.prog 124=some ⟨15,f124.erase,[(RX.t 4)]⟩:=by kernel_rfl
theorem okf124:f124.ok=true:=by kernel_rfl
def f125r1:LA:=[.mk none (.mov 13 (.t 0)),.mk none (.bin 14 .mul (.v (.k (.c (.int .i64 365)))) (.t 13)),.mk none (.mov 15 (.t 0)),.mk none (.bin 16 .quo (.t 15) (.v (.k (.c (.int .i64 4))))),.mk none (.bin 17 .add (.t 14) (.t 16)),.mk none (.mov 18 (.t 0)),.mk none (.bin 19 .quo (.t 18) (.v (.k (.c (.int .i64 100))))),.mk none (.bin 20 .sub (.t 17) (.t 19)),.mk none (.mov 21 (.t 0)),.mk none (.bin 22 .quo (.t 21) (.v (.k (.c (.int .i64 400))))),.mk none (.bin 23 .add (.t 20) (.t 22)),.mk none (.mov 24 (.t 1)),.mk none (.bin 25 .sub (.t 24) (.v (.k (.c (.int .i64 3))))),.mk none (.bin 26 .mul (.v (.k (.c (.int .i64 153)))) (.t 25)),.mk none (.bin 27 .add (.t 26) (.v (.k (.c (.int .i64 2))))),.mk none (.bin 28 .quo (.t 27) (.v (.k (.c (.int .i64 5))))),.mk none (.bin 29 .add (.t 23) (.t 28)),.mk none (.mov 30 (.t 2)),.mk none (.bin 31 .add (.t 29) (.t 30)),.mk none (.bin 32 .sub (.t 31) (.v (.k (.c (.int .i64 1))))),.mk none (.bin 33 .sub (.t 32) (.v (.k (.c (.int .i64 730425))))),.mk none (.mov 6 (.t 33))]
def f125b2:AQ:=(.seq (.region f125r1) .ret)
def f125r3:LA:=[.mk none (.mov 9 (.t 0)),.mk none (.bin 10 .sub (.t 9) (.v (.k (.c (.int .i64 1))))),.mk none (.mov 11 (.t 1)),.mk none (.bin 12 .add (.t 11) (.v (.k (.c (.int .i64 12))))),.mk none (.mov 0 (.t 10)),.mk none (.mov 1 (.t 12))]
def f125b4:AQ:=(.cond (.t 8) (.region f125r3) .skip)
def f125r5:LA:=[.mk none (.mov 7 (.t 1)),.mk none (.bin 8 .lss (.t 7) (.v (.k (.c (.int .i64 3)))))]
def f125b6:AQ:=(.seq (.region f125r5) f125b4)
def f125b7:AQ:=(.seq f125b6 f125b2)
def f125r8:LA:=[.mk none (.mov 6 (.v (.k (.c (.int .i64 0)))))]
def f125b9:AQ:=(.seq (.region f125r8) f125b7)
def f125:AQ:=f125b9
theorem hf125:zH Tryz.prog 125=some ⟨34,f125.erase,[(RX.t 6)]⟩:=by kernel_rfl
theorem okf125:f125.ok=true:=by kernel_rfl
def f131r1:LA:=[.mk none (.mov 2 (.v (.k (.c (.bool true)))))]
def f131b2:AQ:=(.seq (.region f131r1) .ret)
def f131r3:LA:=[.mk none (.mov 17 (.t 3)),.mk none (.bin 18 .add (.t 17) (.v (.k (.c (.int .i64 1))))),.mk none (.mov 3 (.t 18))]
def f131r4:LA:=[.mk none (.mov 2 (.v (.k (.c (.bool false)))))]
def f131b5:AQ:=(.seq (.region f131r4) .ret)
def f131b6:AQ:=(.cond (.t 47) f131b5 .skip)
def f131r7:LA:=[.mk none (.mov 35 (.t 0)),.mk none (.mov 36 (.t 3)),.mk none (.sidx 37 (.t 35) (.t 36)),.mk none (.call (some 38) 147 [(.t 37)]),.mk none (.un 39 .not (.t 38)),.mk none (.mov 40 (.t 39)),.mk (some (40,true)) (.mov 41 (.t 3)),.mk (some (40,true)) (.bin 42 .eql (.t 41) (.v (.k (.c (.int .i64 0))))),.mk (some (40,true)) (.mov 43 (.t 42)),.mk (some (43,false)) (.mov 44 (.t 4)),.mk (some (43,false)) (.un 45 .not (.t 44)),.mk (some (40,true)) (.pick 46 (.t 43) (.v (.k (.c (.bool true)))) (.t 45)),.mk none (.pick 47 (.t 40) (.t 46) (.v (.k (.c (.bool false)))))]
def f131b8:AQ:=(.seq (.region f131r7) f131b6)
def f131r9:LA:=[.mk none (.mov 19 (.t 0)),.mk none (.mov 20 (.t 3)),.mk none (.sidx 21 (.t 19) (.t 20)),.mk none (.bin 22 .eql (.t 21) (.v (.k (.c (.int .u8 95))))),.mk none (.mov 23 (.t 22)),.mk (some (23,false)) (.mov 24 (.t 0)),.mk (some (23,false)) (.mov 25 (.t 3)),.mk (some (23,false)) (.sidx 26 (.t 24) (.t 25)),.mk (some (23,false)) (.bin 27 .leq (.v (.k (.c (.int .u8 48)))) (.t 26)),.mk (some (23,false)) (.mov 28 (.t 27)),.mk (some (28,true)) (.mov 29 (.t 0)),.mk (some (28,true)) (.mov 30 (.t 3)),.mk (some (28,true)) (.sidx 31 (.t 29) (.t 30)),.mk (some (28,true)) (.bin 32 .leq (.t 31) (.v (.k (.c (.int .u8 57))))),.mk (some (23,false)) (.pick 33 (.t 28) (.t 32) (.v (.k (.c (.bool false))))),.mk none (.pick 34 (.t 23) (.v (.k (.c (.bool true)))) (.t 33)),.mk none (.mov 4 (.t 34))]
def f131b10:AQ:=(.seq (.region f131r9) f131b8)
def f131b11:AQ:=(.block 1 f131b10)
def f131b12:AQ:=(.seq f131b11 (.region f131r3))
def f131b13:AQ:=(.cond (.t 16) .skip (.exit 0))
def f131r14:LA:=[.mk none (.mov 13 (.t 3)),.mk none (.mov 14 (.t 0)),.mk none (.lenS 15 (.t 14)),.mk none (.bin 16 .lss (.t 13) (.t 15))]
def f131b15:AQ:=(.seq (.region f131r14) f131b13)
def f131b16:AQ:=(.seq f131b15 f131b12)
def f131l17:AQ:=.loop [0,3] [] f131b16
def f131b18:AQ:=(.block 0 f131l17)
def f131r19:LA:=[.mk none (.mov 3 (.v (.k (.c (.int .i64 0)))))]
def f131b20:AQ:=(.seq (.region f131r19) f131b18)
def f131b21:AQ:=(.seq f131b20 f131b2)
def f131r22:LA:=[.mk none (.mov 2 (.v (.k (.c (.bool false)))))]
def f131b23:AQ:=(.seq (.region f131r22) .ret)
def f131b24:AQ:=(.cond (.t 12) f131b23 .skip)
def f131r25:LA:=[.mk none (.mov 5 (.t 0)),.mk none (.lenS 6 (.t 5)),.mk none (.bin 7 .lss (.t 6) (.v (.k (.c (.int .i64 1))))),.mk none (.mov 8 (.t 7)),.mk (some (8,false)) (.mov 9 (.t 0)),.mk (some (8,false)) (.lenS 10 (.t 9)),.mk (some (8,false)) (.bin 11 .gtr (.t 10) (.v (.k (.c (.int .i64 20))))),.mk none (.pick 12 (.t 8) (.v (.k (.c (.bool true)))) (.t 11))]
def f131b26:AQ:=(.seq (.region f131r25) f131b24)
def f131b27:AQ:=(.seq f131b26 f131b21)
def f131r28:LA:=[.mk none (.mov 2 (.v (.k (.c (.bool false)))))]
def f131b29:AQ:=(.seq (.region f131r28) f131b27)
def f131:AQ:=f131b29
theorem hf131:zH Tryz.prog 131=some ⟨48,f131.erase,[(RX.t 2)]⟩:=by kernel_rfl
theorem okf131:f131.ok=true:=by kernel_rfl
def f132r1:LA:=[.mk none (.mov 6 (.v (.k (.c (.bool false)))))]
def f132b2:AQ:=(.seq (.region f132r1) .ret)
def f132r3:LA:=[.mk none (.mov 17 (.t 7)),.mk none (.bin 18 .add (.t 17) (.v (.k (.c (.int .i64 1))))),.mk none (.mov 7 (.t 18))]
def f132r4:LA:=[.mk none (.mov 6 (.v (.k (.c (.bool true)))))]
def f132b5:AQ:=(.seq (.region f132r4) .ret)
def f132b6:AQ:=(.cond (.t 24) f132b5 .skip)
def f132r7:LA:=[.mk none (.mov 19 (.t 0)),.mk none (.mov 20 (.t 7)),.mk none (.iaddr 21 1 (.t 19) (.t 20)),.mk none (.load 22 1 false (.t 21)),.mk none (.mov 23 (.t 2)),.mk none (.bin 24 .eql (.t 22) (.t 23))]
def f132b8:AQ:=(.seq (.region f132r7) f132b6)
def f132b9:AQ:=(.block 1 f132b8)
def f132b10:AQ:=(.seq f132b9 (.region f132r3))
def f132b11:AQ:=(.cond (.t 16) .skip (.exit 0))
def f132r12:LA:=[.mk none (.mov 8 (.t 7)),.mk none (.mov 9 (.t 1)),.mk none (.bin 10 .lss (.t 8) (.t 9)),.mk none (.mov 11 (.t 10)),.mk (some (11,true)) (.mov 12 (.t 7)),.mk (some (11,true)) (.mov 13 (.t 0)),.mk (some (11,true)) (.len 14 (.t 13)),.mk (some (11,true)) (.bin 15 .lss (.t 12) (.t 14)),.mk none (.pick 16 (.t 11) (.t 15) (.v (.k (.c (.bool false)))))]
def f132b13:AQ:=(.seq (.region f132r12) f132b11)
def f132b14:AQ:=(.seq f132b13 f132b10)
def f132l15:AQ:=.loop [0,1,2,7] [] f132b14
def f132b16:AQ:=(.block 0 f132l15)
def f132r17:LA:=[.mk none (.mov 7 (.v (.k (.c (.int .i64 0)))))]
def f132b18:AQ:=(.seq (.region f132r17) f132b16)
def f132b19:AQ:=(.seq f132b18 f132b2)
def f132r20:LA:=[.mk none (.mov 6 (.v (.k (.c (.bool false)))))]
def f132b21:AQ:=(.seq (.region f132r20) f132b19)
def f132:AQ:=f132b21
theorem hf132:zH Tryz.prog 132=some ⟨25,f132.erase,[(RX.t 6)]⟩:=by kernel_rfl
theorem okf132:f132.ok=true:=by kernel_rfl
def f133r1:LA:=[.mk none (.mov 6 (.v (.k (.c (.bool true)))))]
def f133b2:AQ:=(.seq (.region f133r1) .ret)
def f133r3:LA:=[.mk none (.mov 12 (.t 7)),.mk none (.bin 13 .add (.t 12) (.v (.k (.c (.int .i64 1))))),.mk none (.mov 7 (.t 13))]
def f133r4:LA:=[.mk none (.mov 6 (.v (.k (.c (.bool false)))))]
def f133b5:AQ:=(.seq (.region f133r4) .ret)
def f133b6:AQ:=(.cond (.t 35) f133b5 .skip)
def f133r7:LA:=[.mk none (.mov 22 (.t 7)),.mk none (.bin 23 .gtr (.t 22) (.v (.k (.c (.int .i64 0))))),.mk none (.mov 24 (.t 23)),.mk (some (24,true)) (.mov 25 (.t 0)),.mk (some (24,true)) (.mov 26 (.t 7)),.mk (some (24,true)) (.bin 27 .sub (.t 26) (.v (.k (.c (.int .i64 1))))),.mk (some (24,true)) (.iaddr 28 1 (.t 25) (.t 27)),.mk (some (24,true)) (.load 29 1 false (.t 28)),.mk (some (24,true)) (.mov 30 (.t 0)),.mk (some (24,true)) (.mov 31 (.t 7)),.mk (some (24,true)) (.iaddr 32 1 (.t 30) (.t 31)),.mk (some (24,true)) (.load 33 1 false (.t 32)),.mk (some (24,true)) (.bin 34 .geq (.t 29) (.t 33)),.mk none (.pick 35 (.t 24) (.t 34) (.v (.k (.c (.bool false)))))]
def f133b8:AQ:=(.seq (.draw f133r7 [[],[0],[1],[2],[2],[4,2],[3,5,2],[6,2],[2],[2],[8,9,2],[10,2],[7,11,2],[2,12]]) f133b6)
def f133r9:LA:=[.mk none (.mov 6 (.v (.k (.c (.bool false)))))]
def f133b10:AQ:=(.seq (.region f133r9) .ret)
def f133b11:AQ:=(.cond (.t 21) f133b10 .skip)
def f133r12:LA:=[.mk none (.mov 14 (.t 0)),.mk none (.mov 15 (.t 7)),.mk none (.iaddr 16 1 (.t 14) (.t 15)),.mk none (.load 17 1 false (.t 16)),.mk none (.mov 18 (.t 1)),.mk none (.mov 19 (.t 2)),.mk none (.call (some 20) 112 [(.t 17),(.t 18),(.t 19)]),.mk none (.un 21 .not (.t 20))]
def f133b13:AQ:=(.seq (.region f133r12) f133b11)
def f133b14:AQ:=(.seq f133b13 f133b8)
def f133b15:AQ:=(.block 1 f133b14)
def f133b16:AQ:=(.seq f133b15 (.region f133r3))
def f133b17:AQ:=(.cond (.t 11) .skip (.exit 0))
def f133r18:LA:=[.mk none (.mov 8 (.t 7)),.mk none (.mov 9 (.t 0)),.mk none (.len 10 (.t 9)),.mk none (.bin 11 .lss (.t 8) (.t 10))]
def f133b19:AQ:=(.seq (.region f133r18) f133b17)
def f133b20:AQ:=(.seq f133b19 f133b16)
def f133l21:AQ:=.loop [0,1,2,7] [] f133b20
def f133b22:AQ:=(.block 0 f133l21)
def f133r23:LA:=[.mk none (.mov 7 (.v (.k (.c (.int .i64 0)))))]
def f133b24:AQ:=(.seq (.region f133r23) f133b22)
def f133b25:AQ:=(.seq f133b24 f133b2)
def f133r26:LA:=[.mk none (.mov 6 (.v (.k (.c (.bool false)))))]
def f133b27:AQ:=(.seq (.region f133r26) f133b25)
def f133:AQ:=f133b27
theorem hf133:zH Tryz.prog 133=some ⟨36,f133.erase,[(RX.t 6)]⟩:=by kernel_rfl
theorem okf133:f133.ok=true:=by kernel_rfl
def f147r1:LA:=[.mk none (.mov 3 (.t 0)),.mk none (.bin 4 .leq (.v (.k (.c (.int .u8 97)))) (.t 3)),.mk none (.mov 5 (.t 4)),.mk (some (5,true)) (.mov 6 (.t 0)),.mk (some (5,true)) (.bin 7 .leq (.t 6) (.v (.k (.c (.int .u8 122))))),.mk none (.pick 8 (.t 5) (.t 7) (.v (.k (.c (.bool false))))),.mk none (.mov 9 (.t 8)),.mk (some (9,false)) (.mov 10 (.t 0)),.mk (some (9,false)) (.bin 11 .leq (.v (.k (.c (.int .u8 65)))) (.t 10)),.mk (some (9,false)) (.mov 12 (.t 11)),.mk (some (12,true)) (.mov 13 (.t 0)),.mk (some (12,true)) (.bin 14 .leq (.t 13) (.v (.k (.c (.int .u8 90))))),.mk (some (9,false)) (.pick 15 (.t 12) (.t 14) (.v (.k (.c (.bool false))))),.mk none (.pick 16 (.t 9) (.v (.k (.c (.bool true)))) (.t 15)),.mk none (.mov 2 (.t 16))]
def f147b2:AQ:=(.seq (.region f147r1) .ret)
def f147r3:LA:=[.mk none (.mov 2 (.v (.k (.c (.bool false)))))]
def f147b4:AQ:=(.seq (.region f147r3) f147b2)
def f147:AQ:=f147b4
theorem hf147:zH Tryz.prog 147=some ⟨17,f147.erase,[(RX.t 2)]⟩:=by kernel_rfl
theorem okf147:f147.ok=true:=by kernel_rfl
def f3r1:LA:=[.mk none (.mov 43 (.t 11)),.mk none (.mov 44 (.t 43)),.mk (some (44,true)) (.load 45 8 true (.t 5)),.mk (some (44,true)) (.load 46 15 true (.t 6)),.mk (some (44,true)) (.call (some 47) 12 [(.t 45),(.t 46)]),.mk (some (44,true)) (.load 48 8 true (.t 5)),.mk (some (44,true)) (.load 49 15 true (.t 6)),.mk (some (44,true)) (.call (some 50) 13 [(.t 48),(.t 49)]),.mk (some (44,true)) (.bin 51 .eql (.t 47) (.t 50)),.mk none (.pick 52 (.t 44) (.t 51) (.v (.k (.c (.bool false))))),.mk none (.mov 53 (.t 52)),.mk (some (53,true)) (.load 54 8 true (.t 5)),.mk (some (53,true)) (.load 55 15 true (.t 6)),.mk (some (53,true)) (.mov 56 (.t 2)),.mk (some (53,true)) (.call (some 57) 14 [(.t 54),(.t 55),(.t 56)]),.mk (some (53,true)) (.load 58 8 true (.t 5)),.mk (some (53,true)) (.load 59 15 true (.t 6)),.mk (some (53,true)) (.mov 60 (.t 2)),.mk (some (53,true)) (.call (some 61) 15 [(.t 58),(.t 59),(.t 60)]),.mk (some (53,true)) (.bin 62 .eql (.t 57) (.t 61)),.mk none (.pick 63 (.t 53) (.t 62) (.v (.k (.c (.bool false))))),.mk none (.mov 64 (.t 63)),.mk (some (64,true)) (.load 65 15 true (.t 12)),.mk (some (64,true)) (.load 66 15 true (.t 15)),.mk (some (64,true)) (.eqAgg 67 false [.int,.int,.int,.int,.int,.int,.int,.int,.int,.int,.int,.int,.int,.int,.int] (.t 65) (.t 66)),.mk none (.pick 68 (.t 64) (.t 67) (.v (.k (.c (.bool false))))),.mk none (.mov 69 (.t 68)),.mk (some (69,true)) (.mov 70 (.t 13)),.mk (some (69,true)) (.mov 71 (.t 16)),.mk (some (69,true)) (.bin 72 .eql (.t 70) (.t 71)),.mk none (.pick 73 (.t 69) (.t 72) (.v (.k (.c (.bool false))))),.mk none (.mov 74 (.t 73)),.mk (some (74,true)) (.mov 75 (.t 14)),.mk (some (74,true)) (.mov 76 (.t 17)),.mk (some (74,true)) (.bin 77 .eql (.t 75) (.t 76)),.mk none (.pick 78 (.t 74) (.t 77) (.v (.k (.c (.bool false))))),.mk none (.mov 79 (.t 78)),.mk (some (79,true)) (.load 80 8 true (.t 5)),.mk (some (79,true)) (.mov 81 (.t 3)),.mk (some (79,true)) (.mov 82 (.t 4)),.mk (some (79,true)) (.call (some 83) 16 [(.t 80),(.t 81),(.t 82)]),.mk (some (79,true)) (.load 84 8 true (.t 5)),.mk (some (79,true)) (.mov 85 (.t 3)),.mk (some (79,true)) (.mov 86 (.t 4)),.mk (some (79,true)) (.call (some 87) 17 [(.t 84),(.t 85),(.t 86)]),.mk (some (79,true)) (.binB 88 false (.t 83) (.t 87)),.mk none (.pick 89 (.t 79) (.t 88) (.v (.k (.c (.bool false))))),.mk none (.mov 10 (.t 89))]
def f3b2:AQ:=(.seq (.draw f3r1 [[],[0],[1],[1],[2,3,1,1],[1],[1],[5,6,4,1],[4,7,1],[1,8],[9,7],[10],[10],[10],[11,12,13,10,10],[10],[10],[10],[15,16,17,14,10],[14,18,10],[10,19],[20,18],[21],[21],[22,23,21],[21,24],[25,21],[26],[26],[27,28,26],[26,29],[30,26],[31],[31],[32,33,31],[31,34],[35,31],[36],[36],[36],[37,38,39,36,36],[36],[36],[36],[41,42,43,40,36],[40,44,36],[36,45],[46,44,0,1,2,3,4,5,6,7,8,9,10,11,12,13,14,15,16,17,18,19,20,21,22,23,24,25,26,27,28,29,30,31,32,33,34,35,36,37,38,39,40,41,42,43,44,45,46]]) .ret)
def f3r3:LA:=[.mk none (.load 37 8 true (.t 5)),.mk none (.mov 38 (.t 3)),.mk none (.call (some 39) 11 [(.t 37),(.t 38)]),.mk none (.mov 36 (.t 39)),.mk none (.extr 40 (.t 36) 0),.mk none (.extr 41 (.t 36) 1),.mk none (.extr 42 (.t 36) 2),.mk none (.alloc 15 35 [(.int .i64 0),(.int .i64 0),(.int .i64 0),(.int .i64 0),(.int .i64 0),(.int .i64 0),(.int .i64 0),(.int .i64 0),(.int .i64 0),(.int .i64 0),(.int .i64 0),(.int .i64 0),(.int .i64 0),(.int .i64 0),(.int .i64 0)]),.mk none (.store 15 (.t 15) (.t 40)),.mk none (.mov 16 (.t 41)),.mk none (.mov 17 (.t 42))]
def f3b4:AQ:=(.seq (.region f3r3) f3b2)
def f3r5:LA:=[.mk none (.load 30 8 true (.t 5)),.mk none (.mov 31 (.t 3)),.mk none (.call (some 32) 10 [(.t 30),(.t 31)]),.mk none (.mov 29 (.t 32)),.mk none (.extr 33 (.t 29) 0),.mk none (.extr 34 (.t 29) 1),.mk none (.extr 35 (.t 29) 2),.mk none (.alloc 12 35 [(.int .i64 0),(.int .i64 0),(.int .i64 0),(.int .i64 0),(.int .i64 0),(.int .i64 0),(.int .i64 0),(.int .i64 0),(.int .i64 0),(.int .i64 0),(.int .i64 0),(.int .i64 0),(.int .i64 0),(.int .i64 0),(.int .i64 0)]),.mk none (.store 15 (.t 12) (.t 33)),.mk none (.mov 13 (.t 34)),.mk none (.mov 14 (.t 35))]
def f3b6:AQ:=(.seq (.region f3r5) f3b4)
def f3r7:LA:=[.mk none (.mov 28 (.t 11)),.mk none (.mov 10 (.t 28))]
def f3b8:AQ:=(.seq (.region f3r7) .ret)
def f3b9:AQ:=(.cond (.t 27) f3b8 .skip)
def f3r10:LA:=[.mk none (.load 19 8 true (.t 5)),.mk none (.mov 20 (.t 3)),.mk none (.call (some 21) 9 [(.t 19),(.t 20)]),.mk none (.un 22 .not (.t 21)),.mk none (.mov 23 (.t 22)),.mk (some (23,false)) (.mov 24 (.t 4)),.mk (some (23,false)) (.lenS 25 (.t 24)),.mk (some (23,false)) (.bin 26 .gtr (.t 25) (.v (.k (.c (.int .i64 1000))))),.mk none (.pick 27 (.t 23) (.v (.k (.c (.bool true)))) (.t 26))]
def f3b11:AQ:=(.seq (.region f3r10) f3b9)
def f3b12:AQ:=(.seq f3b11 f3b6)
def f3r13:LA:=[.mk none (.call (some 18) 8 []),.mk none (.mov 11 (.t 18))]
def f3b14:AQ:=(.seq (.region f3r13) f3b12)
def f3r15:LA:=[.mk none (.box 5 31 (.t 0)),.mk none (.box 6 35 (.t 1)),.mk none (.mov 10 (.v (.k (.c (.bool false)))))]
def f3b16:AQ:=(.seq (.region f3r15) f3b14)
def f3:AQ:=f3b16
theorem hf3:zH Tryz.prog 3=some ⟨90,f3.erase,[(RX.t 10)]⟩:=by kernel_rfl
def f4r1:LA:=[.mk none (.mov 47 (.t 7)),.mk none (.mov 48 (.t 47)),.mk (some (48,true)) (.mov 49 (.t 8)),.mk (some (48,true)) (.bin 50 .neq (.t 49) (.v (.k (.c (.str []))))),.mk none (.pick 51 (.t 48) (.t 50) (.v (.k (.c (.bool false))))),.mk none (.mov 52 (.t 51)),.mk (some (52,true)) (.mov 53 (.t 11)),.mk (some (52,true)) (.bin 54 .eql (.t 53) (.v (.k (.c (.int .i64 0))))),.mk none (.pick 55 (.t 52) (.t 54) (.v (.k (.c (.bool false))))),.mk none (.mov 56 (.t 55)),.mk (some (56,true)) (.load 57 15 true (.t 9)),.mk (some (56,true)) (.load 58 15 true (.t 4)),.mk (some (56,true)) (.eqAgg 59 false [.int,.int,.int,.int,.int,.int,.int,.int,.int,.int,.int,.int,.int,.int,.int] (.t 57) (.t 58)),.mk none (.pick 60 (.t 56) (.t 59) (.v (.k (.c (.bool false))))),.mk none (.mov 61 (.t 60)),.mk (some (61,true)) (.mov 62 (.t 10)),.mk (some (61,true)) (.mov 63 (.t 2)),.mk (some (61,true)) (.bin 64 .eql (.t 62) (.t 63)),.mk none (.pick 65 (.t 61) (.t 64) (.v (.k (.c (.bool false))))),.mk none (.mov 6 (.t 65))]
def f4b2:AQ:=(.seq (.region f4r1) .ret)
def f4r3:LA:=[.mk none (.load 41 8 true (.t 3)),.mk none (.mov 42 (.t 8)),.mk none (.call (some 43) 10 [(.t 41),(.t 42)]),.mk none (.mov 40 (.t 43)),.mk none (.extr 44 (.t 40) 0),.mk none (.extr 45 (.t 40) 1),.mk none (.extr 46 (.t 40) 2),.mk none (.alloc 9 35 [(.int .i64 0),(.int .i64 0),(.int .i64 0),(.int .i64 0),(.int .i64 0),(.int .i64 0),(.int .i64 0),(.int .i64 0),(.int .i64 0),(.int .i64 0),(.int .i64 0),(.int .i64 0),(.int .i64 0),(.int .i64 0),(.int .i64 0)]),.mk none (.store 15 (.t 9) (.t 44)),.mk none (.mov 10 (.t 45)),.mk none (.mov 11 (.t 46))]
def f4b4:AQ:=(.seq (.region f4r3) f4b2)
def f4r5:LA:=[.mk none (.mov 35 (.t 7)),.mk none (.mov 36 (.t 35)),.mk (some (36,true)) (.mov 37 (.t 8)),.mk (some (36,true)) (.bin 38 .eql (.t 37) (.v (.k (.c (.str []))))),.mk none (.pick 39 (.t 36) (.t 38) (.v (.k (.c (.bool false))))),.mk none (.mov 6 (.t 39))]
def f4b6:AQ:=(.seq (.region f4r5) .ret)
def f4b7:AQ:=(.cond (.t 34) f4b6 .skip)
def f4r8:LA:=[.mk none (.load 21 8 true (.t 3)),.mk none (.load 22 15 true (.t 4)),.mk none (.call (some 23) 12 [(.t 21),(.t 22)]),.mk none (.bin 24 .neq (.t 23) (.v (.k (.c (.int .i64 0))))),.mk none (.mov 25 (.t 24)),.mk (some (25,false)) (.mov 26 (.t 2)),.mk (some (25,false)) (.bin 27 .lss (.t 26) (.v (.k (.c (.int .i64 0))))),.mk none (.pick 28 (.t 25) (.v (.k (.c (.bool true)))) (.t 27)),.mk none (.mov 29 (.t 28)),.mk (some (29,false)) (.mov 30 (.t 2)),.mk (some (29,false)) (.faddr 31 14 (.t 4)),.mk (some (29,false)) (.load 32 1 false (.t 31)),.mk (some (29,false)) (.bin 33 .geq (.t 30) (.t 32)),.mk none (.pick 34 (.t 29) (.v (.k (.c (.bool true)))) (.t 33))]
def f4b9:AQ:=(.seq (.region f4r8) f4b7)
def f4b10:AQ:=(.seq f4b9 f4b4)
def f4r11:LA:=[.mk none (.load 17 8 true (.t 3)),.mk none (.load 18 15 true (.t 4)),.mk none (.mov 19 (.t 2)),.mk none (.call (some 20) 14 [(.t 17),(.t 18),(.t 19)]),.mk none (.mov 8 (.t 20))]
def f4b12:AQ:=(.seq (.region f4r11) f4b10)
def f4r13:LA:=[.mk none (.mov 16 (.t 7)),.mk none (.mov 6 (.t 16))]
def f4b14:AQ:=(.seq (.region f4r13) .ret)
def f4b15:AQ:=(.cond (.t 15) f4b14 .skip)
def f4r16:LA:=[.mk none (.load 13 8 true (.t 3)),.mk none (.call (some 14) 9 [(.t 13),(.v (.k (.c (.str []))))]),.mk none (.un 15 .not (.t 14))]
def f4b17:AQ:=(.seq (.region f4r16) f4b15)
def f4b18:AQ:=(.seq f4b17 f4b12)
def f4r19:LA:=[.mk none (.call (some 12) 8 []),.mk none (.mov 7 (.t 12))]
def f4b20:AQ:=(.seq (.region f4r19) f4b18)
def f4r21:LA:=[.mk none (.box 3 31 (.t 0)),.mk none (.box 4 35 (.t 1)),.mk none (.mov 6 (.v (.k (.c (.bool false)))))]
def f4b22:AQ:=(.seq (.region f4r21) f4b20)
def f4:AQ:=f4b22
theorem hf4:zH Tryz.prog 4=some ⟨66,f4.erase,[(RX.t 6)]⟩:=by kernel_rfl
theorem okf4:f4.ok=true:=by kernel_rfl
def f5r1:LA:=[.mk none (.mov 38 (.t 5)),.mk none (.mov 39 (.t 38)),.mk (some (39,true)) (.mov 40 (.t 1)),.mk (some (39,true)) (.bin 41 .neq (.t 40) (.v (.k (.c (.str []))))),.mk none (.pick 42 (.t 39) (.t 41) (.v (.k (.c (.bool false))))),.mk none (.mov 43 (.t 42)),.mk (some (43,true)) (.load 44 8 true (.t 2)),.mk (some (43,true)) (.load 45 15 true (.t 6)),.mk (some (43,true)) (.call (some 46) 12 [(.t 44),(.t 45)]),.mk (some (43,true)) (.bin 47 .eql (.t 46) (.v (.k (.c (.int .i64 0))))),.mk none (.pick 48 (.t 43) (.t 47) (.v (.k (.c (.bool false))))),.mk none (.mov 49 (.t 48)),.mk (some (49,true)) (.load 50 8 true (.t 2)),.mk (some (49,true)) (.load 51 15 true (.t 6)),.mk (some (49,true)) (.mov 52 (.t 7)),.mk (some (49,true)) (.call (some 53) 14 [(.t 50),(.t 51),(.t 52)]),.mk (some (49,true)) (.mov 54 (.t 1)),.mk (some (49,true)) (.bin 55 .eql (.t 53) (.t 54)),.mk none (.pick 56 (.t 49) (.t 55) (.v (.k (.c (.bool false))))),.mk none (.mov 4 (.t 56))]
def f5b2:AQ:=(.seq (.region f5r1) .ret)
def f5r3:LA:=[.mk none (.mov 24 (.t 5)),.mk none (.mov 25 (.t 24)),.mk (some (25,true)) (.mov 26 (.t 8)),.mk (some (25,true)) (.bin 27 .eql (.t 26) (.v (.k (.c (.int .i64 9))))),.mk none (.pick 28 (.t 25) (.t 27) (.v (.k (.c (.bool false))))),.mk none (.mov 29 (.t 28)),.mk (some (29,true)) (.load 30 15 true (.t 6)),.mk (some (29,true)) (.build 31 [(.int .i64 0),(.int .i64 0),(.int .i64 0),(.int .i64 0),(.int .i64 0),(.int .i64 0),(.int .i64 0),(.int .i64 0),(.int .i64 0),(.int .i64 0),(.int .i64 0),(.int .i64 0),(.int .i64 0),(.int .i64 0),(.int .i64 0)] []),.mk (some (29,true)) (.eqAgg 32 false [.int,.int,.int,.int,.int,.int,.int,.int,.int,.int,.int,.int,.int,.int,.int] (.t 30) (.t 31)),.mk none (.pick 33 (.t 29) (.t 32) (.v (.k (.c (.bool false))))),.mk none (.mov 34 (.t 33)),.mk (some (34,true)) (.mov 35 (.t 7)),.mk (some (34,true)) (.bin 36 .eql (.t 35) (.v (.k (.c (.int .i64 0))))),.mk none (.pick 37 (.t 34) (.t 36) (.v (.k (.c (.bool false))))),.mk none (.mov 4 (.t 37))]
def f5b4:AQ:=(.seq (.region f5r3) .ret)
def f5b5:AQ:=(.cond (.t 23) f5b4 .skip)
def f5r6:LA:=[.mk none (.mov 22 (.t 8)),.mk none (.bin 23 .neq (.t 22) (.v (.k (.c (.int .i64 0)))))]
def f5b7:AQ:=(.seq (.region f5r6) f5b5)
def f5b8:AQ:=(.seq f5b7 f5b2)
def f5r9:LA:=[.mk none (.load 16 8 true (.t 2)),.mk none (.mov 17 (.t 1)),.mk none (.call (some 18) 10 [(.t 16),(.t 17)]),.mk none (.mov 15 (.t 18)),.mk none (.extr 19 (.t 15) 0),.mk none (.extr 20 (.t 15) 1),.mk none (.extr 21 (.t 15) 2),.mk none (.alloc 6 35 [(.int .i64 0),(.int .i64 0),(.int .i64 0),(.int .i64 0),(.int .i64 0),(.int .i64 0),(.int .i64 0),(.int .i64 0),(.int .i64 0),(.int .i64 0),(.int .i64 0),(.int .i64 0),(.int .i64 0),(.int .i64 0),(.int .i64 0)]),.mk none (.store 15 (.t 6) (.t 19)),.mk none (.mov 7 (.t 20)),.mk none (.mov 8 (.t 21))]
def f5b10:AQ:=(.seq (.region f5r9) f5b8)
def f5r11:LA:=[.mk none (.mov 14 (.t 5)),.mk none (.mov 4 (.t 14))]
def f5b12:AQ:=(.seq (.region f5r11) .ret)
def f5b13:AQ:=(.cond (.t 13) f5b12 .skip)
def f5r14:LA:=[.mk none (.load 10 8 true (.t 2)),.mk none (.mov 11 (.t 1)),.mk none (.call (some 12) 9 [(.t 10),(.t 11)]),.mk none (.un 13 .not (.t 12))]
def f5b15:AQ:=(.seq (.region f5r14) f5b13)
def f5b16:AQ:=(.seq f5b15 f5b10)
def f5r17:LA:=[.mk none (.call (some 9) 8 []),.mk none (.mov 5 (.t 9))]
def f5b18:AQ:=(.seq (.region f5r17) f5b16)
def f5r19:LA:=[.mk none (.box 2 31 (.t 0)),.mk none (.mov 4 (.v (.k (.c (.bool false)))))]
def f5b20:AQ:=(.seq (.region f5r19) f5b18)
def f5:AQ:=f5b20
theorem hf5:zH Tryz.prog 5=some ⟨57,f5.erase,[(RX.t 4)]⟩:=by kernel_rfl
theorem okf5:f5.ok=true:=by kernel_rfl
def f6r1:LA:=[.mk none (.mov 115 (.t 11)),.mk none (.mov 10 (.t 115))]
def f6b2:AQ:=(.seq (.region f6r1) .ret)
def f6r3:LA:=[.mk none (.mov 91 (.t 18)),.mk none (.bin 92 .add (.t 91) (.v (.k (.c (.int .i64 1))))),.mk none (.mov 18 (.t 92))]
def f6r4:LA:=[.mk none (.mov 10 (.v (.k (.c (.bool false)))))]
def f6b5:AQ:=(.seq (.region f6r4) .ret)
def f6b6:AQ:=(.cond (.t 114) f6b5 .skip)
def f6r7:LA:=[.mk none (.mov 104 (.t 19)),.mk none (.mov 105 (.t 16)),.mk none (.mov 106 (.t 18)),.mk none (.iaddr 107 1 (.t 105) (.t 106)),.mk none (.load 108 1 false (.t 107)),.mk none (.mov 109 (.t 17)),.mk none (.mov 110 (.t 18)),.mk none (.iaddr 111 1 (.t 109) (.t 110)),.mk none (.load 112 1 false (.t 111)),.mk none (.bin 113 .eql (.t 108) (.t 112)),.mk none (.binB 114 false (.t 104) (.t 113))]
def f6b8:AQ:=(.seq (.draw f6r7 [[],[],[],[1,2],[3],[],[],[5,6],[7],[4,8],[0,9]]) f6b6)
def f6r9:LA:=[.mk none (.mov 93 (.t 12)),.mk none (.mov 94 (.t 13)),.mk none (.bin 95 .neq (.t 93) (.t 94)),.mk none (.mov 96 (.t 95)),.mk (some (96,true)) (.mov 97 (.t 18)),.mk (some (96,true)) (.bin 98 .eql (.t 97) (.v (.k (.c (.int .i64 0))))),.mk (some (96,true)) (.mov 99 (.t 98)),.mk (some (99,false)) (.mov 100 (.t 18)),.mk (some (99,false)) (.bin 101 .eql (.t 100) (.v (.k (.c (.int .i64 6))))),.mk (some (96,true)) (.pick 102 (.t 99) (.v (.k (.c (.bool true)))) (.t 101)),.mk none (.pick 103 (.t 96) (.t 102) (.v (.k (.c (.bool false))))),.mk none (.mov 19 (.t 103))]
def f6b10:AQ:=(.seq (.region f6r9) f6b8)
def f6b11:AQ:=(.block 1 f6b10)
def f6b12:AQ:=(.seq f6b11 (.region f6r3))
def f6b13:AQ:=(.cond (.t 90) .skip (.exit 0))
def f6r14:LA:=[.mk none (.mov 87 (.t 18)),.mk none (.mov 88 (.t 16)),.mk none (.len 89 (.t 88)),.mk none (.bin 90 .lss (.t 87) (.t 89))]
def f6b15:AQ:=(.seq (.region f6r14) f6b13)
def f6b16:AQ:=(.seq f6b15 f6b12)
def f6l17:AQ:=.loop [11,12,13,16,17,18] [55,57,56000,56001,56002,58000,58001,58002] f6b16
def f6b18:AQ:=(.block 0 f6l17)
def f6r19:LA:=[.mk none (.mov 18 (.v (.k (.c (.int .i64 0)))))]
def f6b20:AQ:=(.seq (.region f6r19) f6b18)
def f6b21:AQ:=(.seq f6b20 f6b2)
def f6r22:LA:=[.mk none (.mov 10 (.v (.k (.c (.bool false)))))]
def f6b23:AQ:=(.seq (.region f6r22) .ret)
def f6b24:AQ:=(.cond (.t 86) f6b23 .skip)
def f6r25:LA:=[.mk none (.load 58 8 true (.t 5)),.mk none (.mov 59 (.t 14)),.mk none (.mov 60 (.t 15)),.mk none (.call (some 61) 16 [(.t 58),(.t 59),(.t 60)]),.mk none (.un 62 .not (.t 61)),.mk none (.mov 63 (.t 62)),.mk (some (63,false)) (.mov 64 (.t 16)),.mk (some (63,false)) (.len 65 (.t 64)),.mk (some (63,false)) (.mov 66 (.t 17)),.mk (some (63,false)) (.len 67 (.t 66)),.mk (some (63,false)) (.bin 68 .neq (.t 65) (.t 67)),.mk none (.pick 69 (.t 63) (.v (.k (.c (.bool true)))) (.t 68)),.mk none (.mov 70 (.t 69)),.mk (some (70,false)) (.mov 71 (.t 16)),.mk (some (70,false)) (.len 72 (.t 71)),.mk (some (70,false)) (.bin 73 .lss (.t 72) (.v (.k (.c (.int .i64 7))))),.mk none (.pick 74 (.t 70) (.v (.k (.c (.bool true)))) (.t 73)),.mk none (.mov 75 (.t 74)),.mk (some (75,false)) (.load 76 8 true (.t 5)),.mk (some (75,false)) (.mov 77 (.t 14)),.mk (some (75,false)) (.load 78 8 true (.t 5)),.mk (some (75,false)) (.load 79 15 true (.t 9)),.mk (some (75,false)) (.call (some 80) 14 [(.t 78),(.t 79),(.v (.k (.c (.int .i64 0))))]),.mk (some (75,false)) (.call (some 81) 16 [(.t 76),(.t 77),(.t 80)]),.mk (some (75,false)) (.load 82 15 true (.t 9)),.mk (some (75,false)) (.load 83 15 true (.t 6)),.mk (some (75,false)) (.eqAgg 84 false [.int,.int,.int,.int,.int,.int,.int,.int,.int,.int,.int,.int,.int,.int,.int] (.t 82) (.t 83)),.mk (some (75,false)) (.binB 85 true (.t 81) (.t 84)),.mk none (.pick 86 (.t 75) (.v (.k (.c (.bool true)))) (.t 85))]
def f6b26:AQ:=(.seq (.draw f6r25 [[],[],[],[0,1,2],[3],[4,3],[5],[6,5],[5],[8,5],[7,9,5],[5,10],[11,5],[12],[13,12],[14,12],[12,15],[16,12],[17],[17],[17],[17],[20,21,17,17],[18,19,22,22,17],[17],[17],[24,25,17],[23,26,17],[17,27]]) f6b24)
def f6b27:AQ:=(.seq f6b26 f6b21)
def f6r28:LA:=[.mk none (.mov 56 (.t 15)),.mk none (.call (some 57) 18 [(.t 56)]),.mk none (.mov 17 (.t 57))]
def f6b29:AQ:=(.seq (.region f6r28) f6b27)
def f6r30:LA:=[.mk none (.mov 54 (.t 14)),.mk none (.call (some 55) 18 [(.t 54)]),.mk none (.mov 16 (.t 55))]
def f6b31:AQ:=(.seq (.region f6r30) f6b29)
def f6r32:LA:=[.mk none (.load 50 8 true (.t 5)),.mk none (.load 51 15 true (.t 6)),.mk none (.mov 52 (.t 13)),.mk none (.call (some 53) 14 [(.t 50),(.t 51),(.t 52)]),.mk none (.mov 15 (.t 53))]
def f6b33:AQ:=(.seq (.region f6r32) f6b31)
def f6r34:LA:=[.mk none (.load 46 8 true (.t 5)),.mk none (.load 47 15 true (.t 6)),.mk none (.mov 48 (.t 12)),.mk none (.call (some 49) 14 [(.t 46),(.t 47),(.t 48)]),.mk none (.mov 14 (.t 49))]
def f6b35:AQ:=(.seq (.region f6r34) f6b33)
def f6r36:LA:=[.mk none (.mov 41 (.t 3)),.mk none (.conv 42 .i64 (.t 41)),.mk none (.faddr 43 14 (.t 6)),.mk none (.load 44 1 false (.t 43)),.mk none (.bin 45 .rem (.t 42) (.t 44)),.mk none (.mov 13 (.t 45))]
def f6b37:AQ:=(.seq (.region f6r36) f6b35)
def f6r38:LA:=[.mk none (.mov 36 (.t 2)),.mk none (.conv 37 .i64 (.t 36)),.mk none (.faddr 38 14 (.t 6)),.mk none (.load 39 1 false (.t 38)),.mk none (.bin 40 .rem (.t 37) (.t 39)),.mk none (.mov 12 (.t 40))]
def f6b39:AQ:=(.seq (.region f6r38) f6b37)
def f6r40:LA:=[.mk none (.mov 35 (.t 11)),.mk none (.mov 10 (.t 35))]
def f6b41:AQ:=(.seq (.region f6r40) .ret)
def f6b42:AQ:=(.cond (.t 34) f6b41 .skip)
def f6r43:LA:=[.mk none (.load 21 8 true (.t 5)),.mk none (.call (some 22) 9 [(.t 21),(.v (.k (.c (.str []))))]),.mk none (.un 23 .not (.t 22)),.mk none (.mov 24 (.t 23)),.mk (some (24,false)) (.load 25 8 true (.t 5)),.mk (some (24,false)) (.load 26 15 true (.t 6)),.mk (some (24,false)) (.call (some 27) 12 [(.t 25),(.t 26)]),.mk (some (24,false)) (.bin 28 .neq (.t 27) (.v (.k (.c (.int .i64 0))))),.mk none (.pick 29 (.t 24) (.v (.k (.c (.bool true)))) (.t 28)),.mk none (.mov 30 (.t 29)),.mk (some (30,false)) (.faddr 31 14 (.t 6)),.mk (some (30,false)) (.load 32 1 false (.t 31)),.mk (some (30,false)) (.bin 33 .lss (.t 32) (.v (.k (.c (.int .i64 1))))),.mk none (.pick 34 (.t 30) (.v (.k (.c (.bool true)))) (.t 33))]
def f6b44:AQ:=(.seq (.region f6r43) f6b42)
def f6b45:AQ:=(.seq f6b44 f6b39)
def f6r46:LA:=[.mk none (.call (some 20) 8 []),.mk none (.mov 11 (.t 20))]
def f6b47:AQ:=(.seq (.region f6r46) f6b45)
def f6r48:LA:=[.mk none (.box 5 31 (.t 0)),.mk none (.box 6 35 (.t 1)),.mk none (.box 9 35 (.t 4)),.mk none (.mov 10 (.v (.k (.c (.bool false)))))]
def f6b49:AQ:=(.seq (.region f6r48) f6b47)
def f6:AQ:=f6b49
theorem hf6:zH Tryz.prog 6=some ⟨116,f6.erase,[(RX.t 10)]⟩:=by kernel_rfl
theorem okf6:f6.ok=true:=by kernel_rfl
def f8r1:LA:=[.mk none (.load 40 8 true (.t 1)),.mk none (.load 41 15 true (.t 2)),.mk none (.call (some 42) 12 [(.t 40),(.t 41)]),.mk none (.bin 43 .eql (.t 42) (.v (.k (.c (.int .i64 0))))),.mk none (.mov 44 (.t 43)),.mk (some (44,true)) (.load 45 8 true (.t 1)),.mk (some (44,true)) (.load 46 15 true (.t 2)),.mk (some (44,true)) (.call (some 47) 14 [(.t 45),(.t 46),(.v (.k (.c (.int .i64 1))))]),.mk (some (44,true)) (.mov 48 (.t 3)),.mk (some (44,true)) (.bin 49 .eql (.t 47) (.t 48)),.mk none (.pick 50 (.t 44) (.t 49) (.v (.k (.c (.bool false))))),.mk none (.mov 51 (.t 50)),.mk (some (51,true)) (.mov 52 (.t 6)),.mk (some (51,true)) (.bin 53 .eql (.t 52) (.v (.k (.c (.int .i64 0))))),.mk none (.pick 54 (.t 51) (.t 53) (.v (.k (.c (.bool false))))),.mk none (.mov 55 (.t 54)),.mk (some (55,true)) (.load 56 15 true (.t 4)),.mk (some (55,true)) (.load 57 15 true (.t 2)),.mk (some (55,true)) (.eqAgg 58 false [.int,.int,.int,.int,.int,.int,.int,.int,.int,.int,.int,.int,.int,.int,.int] (.t 56) (.t 57)),.mk none (.pick 59 (.t 55) (.t 58) (.v (.k (.c (.bool false))))),.mk none (.mov 60 (.t 59)),.mk (some (60,true)) (.mov 61 (.t 5)),.mk (some (60,true)) (.bin 62 .eql (.t 61) (.v (.k (.c (.int .i64 1))))),.mk none (.pick 63 (.t 60) (.t 62) (.v (.k (.c (.bool false))))),.mk none (.mov 64 (.t 63)),.mk (some (64,true)) (.mov 65 (.t 9)),.mk (some (64,true)) (.bin 66 .eql (.t 65) (.v (.k (.c (.int .i64 9))))),.mk none (.pick 67 (.t 64) (.t 66) (.v (.k (.c (.bool false))))),.mk none (.mov 68 (.t 67)),.mk (some (68,true)) (.load 69 8 true (.t 1)),.mk (some (68,true)) (.mov 70 (.t 3)),.mk (some (68,true)) (.mov 71 (.t 10)),.mk (some (68,true)) (.call (some 72) 16 [(.t 69),(.t 70),(.t 71)]),.mk none (.pick 73 (.t 68) (.t 72) (.v (.k (.c (.bool false))))),.mk none (.mov 74 (.t 73)),.mk (some (74,true)) (.load 75 8 true (.t 1)),.mk (some (74,true)) (.load 76 15 true (.t 2)),.mk (some (74,true)) (.call (some 77) 14 [(.t 75),(.t 76),(.v (.k (.c (.int .i64 2))))]),.mk (some (74,true)) (.bin 78 .eql (.t 77) (.v (.k (.c (.str []))))),.mk none (.pick 79 (.t 74) (.t 78) (.v (.k (.c (.bool false))))),.mk none (.mov 80 (.t 79)),.mk (some (80,true)) (.load 81 8 true (.t 1)),.mk (some (80,true)) (.load 82 15 true (.t 11)),.mk (some (80,true)) (.call (some 83) 12 [(.t 81),(.t 82)]),.mk (some (80,true)) (.bin 84 .eql (.t 83) (.v (.k (.c (.int .i64 15))))),.mk none (.pick 85 (.t 80) (.t 84) (.v (.k (.c (.bool false))))),.mk none (.mov 86 (.t 85)),.mk (some (86,true)) (.load 87 8 true (.t 1)),.mk (some (86,true)) (.load 88 15 true (.t 12)),.mk (some (86,true)) (.call (some 89) 12 [(.t 87),(.t 88)]),.mk (some (86,true)) (.bin 90 .eql (.t 89) (.v (.k (.c (.int .i64 4))))),.mk none (.pick 91 (.t 86) (.t 90) (.v (.k (.c (.bool false))))),.mk none (.mov 92 (.t 91)),.mk (some (92,true)) (.build 93 [(.list 0 (some true) []),(.list 0 (some true) []),(.list 0 (some true) []),(.list 0 (some true) []),(.list 0 (some true) []),(.list 0 (some true) []),(.list 0 (some true) []),(.list 0 (some true) [])] []),.mk (some (92,true)) (.load 94 15 true (.t 2)),.mk (some (92,true)) (.call (some 95) 12 [(.t 93),(.t 94)]),.mk (some (92,true)) (.bin 96 .eql (.t 95) (.v (.k (.c (.int .i64 1))))),.mk none (.pick 97 (.t 92) (.t 96) (.v (.k (.c (.bool false))))),.mk none (.mov 0 (.t 97))]
def f8b2:AQ:=(.seq (.region f8r1) .ret)
def f8r3:LA:=[.mk none (.faddr 38 5 (.t 12)),.mk none (.faddr 39 0 (.t 38)),.mk none (.store 1 (.t 39) (.v (.k (.c (.int .i64 4)))))]
def f8b4:AQ:=(.seq (.region f8r3) f8b2)
def f8r5:LA:=[.mk none (.load 37 15 true (.t 2)),.mk none (.alloc 12 35 [(.int .i64 0),(.int .i64 0),(.int .i64 0),(.int .i64 0),(.int .i64 0),(.int .i64 0),(.int .i64 0),(.int .i64 0),(.int .i64 0),(.int .i64 0),(.int .i64 0),(.int .i64 0),(.int .i64 0),(.int .i64 0),(.int .i64 0)]),.mk none (.store 15 (.t 12) (.t 37))]
def f8b6:AQ:=(.seq (.region f8r5) f8b4)
def f8r7:LA:=[.mk none (.faddr 36 14 (.t 11)),.mk none (.store 1 (.t 36) (.v (.k (.c (.int .i64 5)))))]
def f8b8:AQ:=(.seq (.region f8r7) f8b6)
def f8r9:LA:=[.mk none (.load 35 15 true (.t 2)),.mk none (.alloc 11 35 [(.int .i64 0),(.int .i64 0),(.int .i64 0),(.int .i64 0),(.int .i64 0),(.int .i64 0),(.int .i64 0),(.int .i64 0),(.int .i64 0),(.int .i64 0),(.int .i64 0),(.int .i64 0),(.int .i64 0),(.int .i64 0),(.int .i64 0)]),.mk none (.store 15 (.t 11) (.t 35))]
def f8b10:AQ:=(.seq (.region f8r9) f8b8)
def f8r11:LA:=[.mk none (.load 32 8 true (.t 1)),.mk none (.load 33 15 true (.t 2)),.mk none (.call (some 34) 14 [(.t 32),(.t 33),(.v (.k (.c (.int .i64 0))))]),.mk none (.mov 10 (.t 34))]
def f8b12:AQ:=(.seq (.region f8r11) f8b10)
def f8r13:LA:=[.mk none (.load 25 8 true (.t 1)),.mk none (.mov 26 (.t 3)),.mk none (.bin 27 .add (.t 26) (.v (.k (.c (.str [10]))))),.mk none (.call (some 28) 10 [(.t 25),(.t 27)]),.mk none (.mov 24 (.t 28)),.mk none (.extr 29 (.t 24) 0),.mk none (.extr 30 (.t 24) 1),.mk none (.extr 31 (.t 24) 2),.mk none (.alloc 7 35 [(.int .i64 0),(.int .i64 0),(.int .i64 0),(.int .i64 0),(.int .i64 0),(.int .i64 0),(.int .i64 0),(.int .i64 0),(.int .i64 0),(.int .i64 0),(.int .i64 0),(.int .i64 0),(.int .i64 0),(.int .i64 0),(.int .i64 0)]),.mk none (.store 15 (.t 7) (.t 29)),.mk none (.mov 8 (.t 30)),.mk none (.mov 9 (.t 31))]
def f8b14:AQ:=(.seq (.region f8r13) f8b12)
def f8r15:LA:=[.mk none (.load 18 8 true (.t 1)),.mk none (.mov 19 (.t 3)),.mk none (.call (some 20) 10 [(.t 18),(.t 19)]),.mk none (.mov 17 (.t 20)),.mk none (.extr 21 (.t 17) 0),.mk none (.extr 22 (.t 17) 1),.mk none (.extr 23 (.t 17) 2),.mk none (.alloc 4 35 [(.int .i64 0),(.int .i64 0),(.int .i64 0),(.int .i64 0),(.int .i64 0),(.int .i64 0),(.int .i64 0),(.int .i64 0),(.int .i64 0),(.int .i64 0),(.int .i64 0),(.int .i64 0),(.int .i64 0),(.int .i64 0),(.int .i64 0)]),.mk none (.store 15 (.t 4) (.t 21)),.mk none (.mov 5 (.t 22)),.mk none (.mov 6 (.t 23))]
def f8b16:AQ:=(.seq (.region f8r15) f8b14)
def f8r17:LA:=[.mk none (.mov 3 (.v (.k (.c (.str [98,105,108,108,32,50,32,111,102,32,50,10,100,114,97,119,110,32,105,110,32,76,121,111,110,32,111,110,32,50,48,48,48,45,50,45,50,57,10,112,97,121,32,97,116,32,115,105,103,104,116,10,116,111,32,98,101,97,114,101,114,10,53,48,48,32,102,114,97,110,99,10,116,111,32,98,101,32,112,97,105,100,32,98,121,32,72,111,112,101,32,105,110,32,76,121,111,110,10,117,110,108,101,115,115,32,112,97,114,116,32,49,32,119,97,115,32,112,97,105,100,10,115,105,103,110,101,100,32,66,111,100,109,101,114,10])))))]
def f8b18:AQ:=(.seq (.region f8r17) f8b16)
def f8r19:LA:=[.mk none (.call (some 14) 19 []),.mk none (.mov 13 (.t 14)),.mk none (.extr 15 (.t 13) 0),.mk none (.extr 16 (.t 13) 1),.mk none (.alloc 1 31 [(.list 0 (some true) []),(.list 0 (some true) []),(.list 0 (some true) []),(.list 0 (some true) []),(.list 0 (some true) []),(.list 0 (some true) []),(.list 0 (some true) []),(.list 0 (some true) [])]),.mk none (.alloc 2 35 [(.int .i64 0),(.int .i64 0),(.int .i64 0),(.int .i64 0),(.int .i64 0),(.int .i64 0),(.int .i64 0),(.int .i64 0),(.int .i64 0),(.int .i64 0),(.int .i64 0),(.int .i64 0),(.int .i64 0),(.int .i64 0),(.int .i64 0)]),.mk none (.store 8 (.t 1) (.t 15)),.mk none (.store 15 (.t 2) (.t 16))]
def f8b20:AQ:=(.seq (.region f8r19) f8b18)
def f8r21:LA:=[.mk none (.mov 0 (.v (.k (.c (.bool false)))))]
def f8b22:AQ:=(.seq (.region f8r21) f8b20)
def f8:AQ:=f8b22
theorem hf8:zH Tryz.prog 8=some ⟨98,f8.erase,[(RX.t 0)]⟩:=by kernel_rfl
theorem okf8:f8.ok=true:=by kernel_rfl
def f24r1:LA:=[.mk none (.mov 5 (.t 0)),.mk none (.mov 6 (.t 1)),.mk none (.call (some 7) 66 [(.t 5),(.t 6)]),.mk none (.mov 4 (.t 7))]
def f24b2:AQ:=(.seq (.region f24r1) .ret)
def f24r3:LA:=[.mk none (.mov 4 (.v (.k (.c (.str [])))))]
def f24b4:AQ:=(.seq (.region f24r3) f24b2)
def f24:AQ:=f24b4
theorem hf24:zH Tryz.prog 24=some ⟨8,f24.erase,[(RX.t 4)]⟩:=by kernel_rfl
theorem okf24:f24.ok=true:=by kernel_rfl
def f66r1:LA:=[.mk none (.mov 15 (.t 0)),.mk none (.mov 4 (.t 15))]
def f66b2:AQ:=(.seq (.region f66r1) .ret)
def f66r3:LA:=[.mk none (.mov 8 (.t 0)),.mk none (.mov 9 (.t 0)),.mk none (.lenS 10 (.t 9)),.mk none (.mov 11 (.t 1)),.mk none (.lenS 12 (.t 11)),.mk none (.bin 13 .sub (.t 10) (.t 12)),.mk none (.slstr 14 (.t 8) none (some (.t 13))),.mk none (.mov 4 (.t 14))]
def f66b4:AQ:=(.seq (.region f66r3) .ret)
def f66b5:AQ:=(.cond (.t 7) f66b4 .skip)
def f66r6:LA:=[.mk none (.mov 5 (.t 0)),.mk none (.mov 6 (.t 1)),.mk none (.call (some 7) 99 [(.t 5),(.t 6)])]
def f66b7:AQ:=(.seq (.region f66r6) f66b5)
def f66b8:AQ:=(.seq f66b7 f66b2)
def f66r9:LA:=[.mk none (.mov 4 (.v (.k (.c (.str [])))))]
def f66b10:AQ:=(.seq (.region f66r9) f66b8)
def f66:AQ:=f66b10
theorem hf66:zH Tryz.prog 66=some ⟨16,f66.erase,[(RX.t 4)]⟩:=by kernel_rfl
theorem okf66:f66.ok=true:=by kernel_rfl
def f99r1:LA:=[.mk none (.mov 5 (.t 0)),.mk none (.lenS 6 (.t 5)),.mk none (.mov 7 (.t 1)),.mk none (.lenS 8 (.t 7)),.mk none (.bin 9 .geq (.t 6) (.t 8)),.mk none (.mov 10 (.t 9)),.mk (some (10,true)) (.mov 11 (.t 0)),.mk (some (10,true)) (.mov 12 (.t 0)),.mk (some (10,true)) (.lenS 13 (.t 12)),.mk (some (10,true)) (.mov 14 (.t 1)),.mk (some (10,true)) (.lenS 15 (.t 14)),.mk (some (10,true)) (.bin 16 .sub (.t 13) (.t 15)),.mk (some (10,true)) (.slstr 17 (.t 11) (some (.t 16)) none),.mk (some (10,true)) (.mov 18 (.t 1)),.mk (some (10,true)) (.bin 19 .eql (.t 17) (.t 18)),.mk none (.pick 20 (.t 10) (.t 19) (.v (.k (.c (.bool false))))),.mk none (.mov 4 (.t 20))]
def f99b2:AQ:=(.seq (.region f99r1) .ret)
def f99r3:LA:=[.mk none (.mov 4 (.v (.k (.c (.bool false)))))]
def f99b4:AQ:=(.seq (.region f99r3) f99b2)
def f99:AQ:=f99b4
theorem hf99:zH Tryz.prog 99=some ⟨21,f99.erase,[(RX.t 4)]⟩:=by kernel_rfl
theorem okf99:f99.ok=true:=by kernel_rfl
def f130r1:LA:=[.mk none (.mov 5 (.t 0)),.mk none (.mov 6 (.t 1)),.mk none (.call (some 7) 146 [(.t 5),(.t 6)]),.mk none (.bin 8 .geq (.t 7) (.v (.k (.c (.int .i64 0))))),.mk none (.mov 4 (.t 8))]
def f130b2:AQ:=(.seq (.region f130r1) .ret)
def f130r3:LA:=[.mk none (.mov 4 (.v (.k (.c (.bool false)))))]
def f130b4:AQ:=(.seq (.region f130r3) f130b2)
def f130:AQ:=f130b4
theorem hf130:zH Tryz.prog 130=some ⟨9,f130.erase,[(RX.t 4)]⟩:=by kernel_rfl
theorem okf130:f130.ok=true:=by kernel_rfl
def f146r1:LA:=[.mk none (.mov 4 (.v (.k (.c (.int .i64 (-1))))))]
def f146b2:AQ:=(.seq (.region f146r1) .ret)
def f146r3:LA:=[.mk none (.bin 18 .add (.t 8) (.v (.k (.c (.int .i64 1))))),.mk none (.mov 8 (.t 18))]
def f146r4:LA:=[.mk none (.mov 17 (.t 5)),.mk none (.mov 4 (.t 17))]
def f146b5:AQ:=(.seq (.region f146r4) .ret)
def f146b6:AQ:=(.cond (.t 16) f146b5 .skip)
def f146r7:LA:=[.mk none (.mov 11 (.t 1)),.mk none (.mov 12 (.t 0)),.mk none (.mov 13 (.t 5)),.mk none (.iaddr 14 1 (.t 12) (.t 13)),.mk none (.load 15 1 false (.t 14)),.mk none (.bin 16 .eql (.t 11) (.t 15))]
def f146b8:AQ:=(.seq (.region f146r7) f146b6)
def f146r9:LA:=[.mk none (.mov 10 (.t 8)),.mk none (.mov 5 (.t 10))]
def f146b10:AQ:=(.seq (.region f146r9) f146b8)
def f146b11:AQ:=(.block 1 f146b10)
def f146b12:AQ:=(.seq f146b11 (.region f146r3))
def f146b13:AQ:=(.cond (.t 9) .skip (.exit 0))
def f146b14:AQ:=(.seq f146b13 f146b12)
def f146r15:LA:=[.mk none (.bin 9 .lss (.t 8) (.t 7))]
def f146b16:AQ:=(.seq (.region f146r15) f146b14)
def f146l17:AQ:=.loop [0,1,7,8] [] f146b16
def f146b18:AQ:=(.block 0 f146l17)
def f146r19:LA:=[.mk none (.mov 6 (.t 0)),.mk none (.len 7 (.t 6)),.mk none (.mov 8 (.v (.k (.c (.int .i64 0)))))]
def f146b20:AQ:=(.seq (.region f146r19) f146b18)
def f146b21:AQ:=(.seq f146b20 f146b2)
def f146r22:LA:=[.mk none (.mov 4 (.v (.k (.c (.int .i64 0)))))]
def f146b23:AQ:=(.seq (.region f146r22) f146b21)
def f146:AQ:=f146b23
theorem hf146:zH Tryz.prog 146=some ⟨19,f146.erase,[(RX.t 4)]⟩:=by kernel_rfl
theorem okf146:f146.ok=true:=by kernel_rfl
def f14r1:LA:=[.mk none (.call (some 157) 55 [(.t 7)]),.mk none (.mov 6 (.t 157))]
def f14b2:AQ:=(.seq (.region f14r1) .ret)
def f14r3:LA:=[.mk none (.mov 147 (.t 8)),.mk none (.faddr 148 3 (.t 3)),.mk none (.load 149 1 false (.t 148)),.mk none (.faddr 150 0 (.t 4)),.mk none (.load 151 1 false (.t 150)),.mk none (.iaddr 152 3 (.t 149) (.t 151)),.mk none (.faddr 153 0 (.t 152)),.mk none (.load 154 1 false (.t 153)),.mk none (.bslice 155 9 1 [(.str [])] 2 [(0,(.v (.k (.c (.str [115,105,103,110,101,100]))))),(1,(.t 154))])]
def f14r4:LA:=[.mk none (.callv (some 156) (.t 147) [(.v (.k (.c (.bool true)))),(.t 155)])]
def f14b5:AQ:=(.seq (.regf f14r3 [155] f14r4) f14b2)
def f14r6:LA:=[.mk none (.mov 140 (.t 8)),.mk none (.faddr 141 13 (.t 4)),.mk none (.load 142 1 false (.t 141)),.mk none (.bin 143 .and (.t 142) (.v (.k (.c (.int .i64 2))))),.mk none (.bin 144 .neq (.t 143) (.v (.k (.c (.int .i64 0))))),.mk none (.bslice 145 9 1 [(.str [])] 1 [(0,(.v (.k (.c (.str [119,105,116,104,111,117,116,32,112,114,111,116,101,115,116])))))])]
def f14r7:LA:=[.mk none (.callv (some 146) (.t 140) [(.t 144),(.t 145)])]
def f14b8:AQ:=(.seq (.regf f14r6 [145] f14r7) f14b5)
def f14r9:LA:=[.mk none (.mov 130 (.t 8)),.mk none (.faddr 131 3 (.t 3)),.mk none (.load 132 1 false (.t 131)),.mk none (.faddr 133 11 (.t 4)),.mk none (.load 134 1 false (.t 133)),.mk none (.iaddr 135 3 (.t 132) (.t 134)),.mk none (.faddr 136 0 (.t 135)),.mk none (.load 137 1 false (.t 136)),.mk none (.bslice 138 9 1 [(.str [])] 2 [(0,(.v (.k (.c (.str [105,110,32,110,101,101,100,32,97,115,107]))))),(1,(.t 137))])]
def f14r10:LA:=[.mk none (.callv (some 139) (.t 130) [(.v (.k (.c (.bool true)))),(.t 138)])]
def f14b11:AQ:=(.cond (.t 129) (.regf f14r9 [138] f14r10) .skip)
def f14r12:LA:=[.mk none (.faddr 127 11 (.t 4)),.mk none (.load 128 1 false (.t 127)),.mk none (.bin 129 .neq (.t 128) (.v (.k (.c (.int .i64 (-1))))))]
def f14b13:AQ:=(.seq (.region f14r12) f14b11)
def f14b14:AQ:=(.seq f14b13 (.keep [3,4,7,8] [3,4,7,18007] f14b8))
def f14r15:LA:=[.mk none (.mov 117 (.t 8)),.mk none (.faddr 118 14 (.t 4)),.mk none (.load 119 1 false (.t 118)),.mk none (.bin 120 .gtr (.t 119) (.v (.k (.c (.int .i64 1))))),.mk none (.faddr 121 14 (.t 4)),.mk none (.load 122 1 false (.t 121)),.mk none (.mov 123 (.t 2)),.mk none (.call (some 124) 54 [(.t 122),(.t 123)]),.mk none (.bslice 125 9 1 [(.str [])] 3 [(0,(.v (.k (.c (.str [117,110,108,101,115,115,32,112,97,114,116]))))),(1,(.t 124)),(2,(.v (.k (.c (.str [119,97,115,32,112,97,105,100])))))])]
def f14r16:AI:=.mk none (.callv (some 126) (.t 117) [(.t 120),(.t 125)])
def f14b17:AQ:=(.seq (.drawl f14r15 f14r16 [[],[],[1],[2],[],[4],[],[5,6],[7],[0,3,8,7]]) f14b14)
def f14r18:LA:=[.mk none (.mov 100 (.t 8)),.mk none (.faddr 101 3 (.t 3)),.mk none (.load 102 1 false (.t 101)),.mk none (.faddr 103 1 (.t 4)),.mk none (.load 104 1 false (.t 103)),.mk none (.iaddr 105 3 (.t 102) (.t 104)),.mk none (.faddr 106 0 (.t 105)),.mk none (.load 107 1 false (.t 106)),.mk none (.faddr 108 1 (.t 3)),.mk none (.load 109 1 false (.t 108)),.mk none (.faddr 110 10 (.t 4)),.mk none (.load 111 1 false (.t 110)),.mk none (.iaddr 112 6 (.t 109) (.t 111)),.mk none (.faddr 113 0 (.t 112)),.mk none (.load 114 1 false (.t 113)),.mk none (.bslice 115 9 1 [(.str [])] 4 [(0,(.v (.k (.c (.str [116,111,32,98,101,32,112,97,105,100,32,98,121]))))),(1,(.t 107)),(2,(.v (.k (.c (.str [105,110]))))),(3,(.t 114))])]
def f14r19:AI:=.mk none (.callv (some 116) (.t 100) [(.v (.k (.c (.bool true)))),(.t 115)])
def f14b20:AQ:=(.seq (.drawl f14r18 f14r19 [[],[],[1],[],[3],[2,4],[5],[6],[],[8],[],[10],[9,11],[12],[13],[7,14],[0,15]]) f14b17)
def f14r21:LA:=[.mk none (.mov 90 (.t 8)),.mk none (.faddr 91 12 (.t 4)),.mk none (.load 92 1 false (.t 91)),.mk none (.bin 93 .gtr (.t 92) (.v (.k (.c (.int .i64 0))))),.mk none (.mov 94 (.t 10)),.mk none (.faddr 95 12 (.t 4)),.mk none (.load 96 1 false (.t 95)),.mk none (.call (some 97) 51 [(.t 96)]),.mk none (.bslice 98 9 1 [(.str [])] 4 [(0,(.t 94)),(1,(.v (.k (.c (.str [119,105,116,104,32,105,110,116,101,114,101,115,116,32,97,116]))))),(2,(.t 97)),(3,(.v (.k (.c (.str [112,101,114,32,109,105,108,108,101])))))])]
def f14r22:AI:=.mk none (.callv (some 99) (.t 90) [(.t 93),(.t 98)])
def f14b23:AQ:=(.seq (.drawl f14r21 f14r22 [[],[],[1],[2],[],[],[5],[6],[4,7],[0,3,8,7]]) f14b20)
def f14r24:LA:=[.mk none (.mov 83 (.t 8)),.mk none (.faddr 84 12 (.t 4)),.mk none (.load 85 1 false (.t 84)),.mk none (.bin 86 .eql (.t 85) (.v (.k (.c (.int .i64 0))))),.mk none (.mov 87 (.t 10)),.mk none (.bslice 88 9 1 [(.str [])] 1 [(0,(.t 87))])]
def f14r25:LA:=[.mk none (.callv (some 89) (.t 83) [(.t 86),(.t 88)])]
def f14b26:AQ:=(.seq (.regf f14r24 [88] f14r25) f14b23)
def f14r27:LA:=[.mk none (.faddr 72 3 (.t 4)),.mk none (.load 73 1 false (.t 72)),.mk none (.call (some 74) 51 [(.t 73)]),.mk none (.bin 75 .add (.t 74) (.v (.k (.c (.str [32]))))),.mk none (.faddr 76 0 (.t 3)),.mk none (.load 77 1 false (.t 76)),.mk none (.faddr 78 4 (.t 4)),.mk none (.load 79 1 false (.t 78)),.mk none (.iaddr 80 1 (.t 77) (.t 79)),.mk none (.load 81 1 false (.t 80)),.mk none (.bin 82 .add (.t 75) (.t 81)),.mk none (.mov 10 (.t 82))]
def f14b28:AQ:=(.seq (.draw f14r27 [[],[0],[1],[2],[],[4],[],[6],[5,7],[8],[3,9],[10,2,0,1,2,3,4,5,6,7,8,9,10]]) f14b26)
def f14r29:LA:=[.mk none (.mov 57 (.t 8)),.mk none (.bslice 58 9 1 [(.str [])] 1 [(0,(.v (.k (.c (.str [116,111,32,98,101,97,114,101,114])))))])]
def f14r30:LA:=[.mk none (.callv (some 59) (.t 57) [(.v (.k (.c (.bool true)))),(.t 58)])]
def f14r31:LA:=[.mk none (.mov 60 (.t 8)),.mk none (.faddr 61 3 (.t 3)),.mk none (.load 62 1 false (.t 61)),.mk none (.faddr 63 2 (.t 4)),.mk none (.load 64 1 false (.t 63)),.mk none (.iaddr 65 3 (.t 62) (.t 64)),.mk none (.faddr 66 0 (.t 65)),.mk none (.load 67 1 false (.t 66)),.mk none (.mov 68 (.t 9)),.mk none (.callv (some 69) (.t 68) [(.v (.k (.c (.int .i64 4)))),(.v (.k (.c (.str [110,111,116,32,116,111,32,111,114,100,101,114])))),(.v (.k (.c (.str [111,114,32,111,114,100,101,114]))))]),.mk none (.bslice 70 9 1 [(.str [])] 3 [(0,(.v (.k (.c (.str [116,111]))))),(1,(.t 67)),(2,(.t 69))])]
def f14r32:AI:=.mk none (.callv (some 71) (.t 60) [(.v (.k (.c (.bool true)))),(.t 70)])
def f14b33:AQ:=(.cond (.t 56) (.regf f14r29 [58] f14r30) (.drawl f14r31 f14r32 [[],[],[1],[],[3],[2,4],[5],[6],[],[8],[7,9],[0,10,9]]))
def f14r34:LA:=[.mk none (.faddr 54 2 (.t 4)),.mk none (.load 55 1 false (.t 54)),.mk none (.bin 56 .eql (.t 55) (.v (.k (.c (.int .i64 (-1))))))]
def f14b35:AQ:=(.seq (.region f14r34) f14b33)
def f14b36:AQ:=(.seq f14b35 (.keep [2,3,4,7,8] [3,4,7,18007] f14b28))
def f14r37:LA:=[.mk none (.mov 48 (.t 8)),.mk none (.faddr 49 5 (.t 4)),.mk none (.load 50 3 true (.t 49)),.mk none (.call (some 51) 53 [(.t 50)]),.mk none (.bslice 52 9 1 [(.str [])] 1 [(0,(.t 51))])]
def f14r38:LA:=[.mk none (.callv (some 53) (.t 48) [(.v (.k (.c (.bool true)))),(.t 52)])]
def f14b39:AQ:=(.seq (.regf f14r37 [52] f14r38) f14b36)
def f14r40:LA:=[.mk none (.mov 35 (.t 8)),.mk none (.faddr 36 1 (.t 3)),.mk none (.load 37 1 false (.t 36)),.mk none (.faddr 38 9 (.t 4)),.mk none (.load 39 1 false (.t 38)),.mk none (.iaddr 40 6 (.t 37) (.t 39)),.mk none (.faddr 41 0 (.t 40)),.mk none (.load 42 1 false (.t 41)),.mk none (.faddr 43 8 (.t 4)),.mk none (.load 44 1 false (.t 43)),.mk none (.call (some 45) 52 [(.t 44)]),.mk none (.bslice 46 9 1 [(.str [])] 4 [(0,(.v (.k (.c (.str [100,114,97,119,110,32,105,110]))))),(1,(.t 42)),(2,(.v (.k (.c (.str [111,110]))))),(3,(.t 45))])]
def f14r41:AI:=.mk none (.callv (some 47) (.t 35) [(.v (.k (.c (.bool true)))),(.t 46)])
def f14b42:AQ:=(.seq (.drawl f14r40 f14r41 [[],[],[1],[],[3],[2,4],[5],[6],[],[8],[9],[7,10],[0,11,10]]) f14b39)
def f14r43:LA:=[.mk none (.mov 24 (.t 8)),.mk none (.mov 25 (.t 9)),.mk none (.callv (some 26) (.t 25) [(.v (.k (.c (.int .i64 1)))),(.v (.k (.c (.str [98,105,108,108])))),(.v (.k (.c (.str [112,97,112,101,114]))))]),.mk none (.mov 27 (.t 2)),.mk none (.bin 28 .add (.t 27) (.v (.k (.c (.int .i64 1))))),.mk none (.call (some 29) 51 [(.t 28)]),.mk none (.faddr 30 14 (.t 4)),.mk none (.load 31 1 false (.t 30)),.mk none (.call (some 32) 51 [(.t 31)]),.mk none (.bslice 33 9 1 [(.str [])] 4 [(0,(.t 26)),(1,(.t 29)),(2,(.v (.k (.c (.str [111,102]))))),(3,(.t 32))])]
def f14r44:AI:=.mk none (.callv (some 34) (.t 24) [(.v (.k (.c (.bool true)))),(.t 33)])
def f14b45:AQ:=(.seq (.drawl f14r43 f14r44 [[],[],[1],[],[3],[4,2],[],[6],[7,5],[2,5,8],[0,9,8]]) f14b42)
def f14r46:LA:=[.mk none (.mkfn 23 50 [(.t 4)]),.mk none (.mov 9 (.t 23))]
def f14b47:AQ:=(.seq (.region f14r46) f14b45)
def f14r48:LA:=[.mk none (.mkfn 22 47 [(.t 7)]),.mk none (.mov 8 (.t 22))]
def f14b49:AQ:=(.seq (.region f14r48) f14b47)
def f14r50:LA:=[.mk none (.alloc 7 80 [C.nilp,(.list 0 (some true) [])])]
def f14b51:AQ:=(.seq (.region f14r50) (.own 7 18007 5 1 f14b49))
def f14r52:LA:=[.mk none (.mov 6 (.v (.k (.c (.str [])))))]
def f14b53:AQ:=(.seq (.region f14r52) .ret)
def f14b54:AQ:=(.cond (.t 21) f14b53 .skip)
def f14r55:LA:=[.mk none (.load 11 8 true (.t 3)),.mk none (.load 12 15 true (.t 4)),.mk none (.call (some 13) 12 [(.t 11),(.t 12)]),.mk none (.bin 14 .neq (.t 13) (.v (.k (.c (.int .i64 0))))),.mk none (.mov 15 (.t 14)),.mk (some (15,false)) (.mov 16 (.t 2)),.mk (some (15,false)) (.faddr 17 14 (.t 4)),.mk (some (15,false)) (.load 18 1 false (.t 17)),.mk (some (15,false)) (.call (some 19) 38 [(.t 16),(.t 18)]),.mk (some (15,false)) (.un 20 .not (.t 19)),.mk none (.pick 21 (.t 15) (.v (.k (.c (.bool true)))) (.t 20))]
def f14b56:AQ:=(.seq (.region f14r55) f14b54)
def f14b57:AQ:=(.seq f14b56 f14b51)
def f14r58:LA:=[.mk none (.box 3 31 (.t 0)),.mk none (.box 4 35 (.t 1)),.mk none (.mov 6 (.v (.k (.c (.str [])))))]
def f14b59:AQ:=(.seq (.region f14r58) (.frz 4 (.frz 3 f14b57)))
def f14:AQ:=f14b59
theorem hf14:zH Tryz.prog 14=some ⟨158,f14.erase,[(RX.t 6)]⟩:=by kernel_rfl
theorem okf14:f14.ok=true:=by kernel_rfl
def f25r1o0:AI:=.mk none (.load 136 15 true (.t 4))
def f25r1o1:AI:=.mk none (.mov 137 (.t 1))
def f25r1o2:AI:=.mk none (.iaddr 138 1 (.t 137) (.v (.k (.c (.int .i64 0)))))
def f25r1o3:AI:=.mk none (.load 139 1 false (.t 138))
def f25r1o4:AI:=.mk none (.call (some 140) 68 [(.t 139),(.v (.k (.c (.int .i64 1))))])
def f25r1o5:AI:=.mk none (.call (some 141) 71 [(.t 140)])
def f25r1o6:AI:=.mk none (.bin 142 .sub (.t 141) (.v (.k (.c (.int .i64 1)))))
def f25r1o7:AI:=.mk none (.store 15 (.t 4) (.t 136))
def f25r1o8:AI:=.mk none (.mov 5 (.t 142))
def f25r1:LA:=[f25r1o0,f25r1o1,f25r1o2,f25r1o3,f25r1o4,f25r1o5,f25r1o6,f25r1o7,f25r1o8]
theorem zkM:qJ f25r1 [[],[],[1],[2],[3],[4,4],[5],[0,5,0],[6,7,0,1,2,3,4,5,6,7]]=(.one f25r1o0 (.one f25r1o1 (.one f25r1o2 (.one f25r1o3 (.one f25r1o4 (.one f25r1o5 (.alt (.one f25r1o6 (.one f25r1o7 (.one f25r1o8 .done))) (.alt (.one f25r1o7 (.one f25r1o6 (.one f25r1o8 .done))) .top)))))))):=by kernel_rfl
def f25b2:AQ:=(.seq (.tree f25r1 [[],[],[1],[2],[3],[4,4],[5],[0,5,0],[6,7,0,1,2,3,4,5,6,7]]) (.keep [4,5] [4] .ret))
def f25r3:LA:=[.mk none (.bin 135 .add (.t 109) (.v (.k (.c (.int .i64 1))))),.mk none (.mov 109 (.t 135))]
def f25r4:LA:=[.mk none (.load 117 8 true (.t 2)),.mk none (.mov 118 (.t 9)),.mk none (.call (some 119) 68 [(.t 118),(.v (.k (.c (.int .i64 3))))]),.mk none (.call (some 120) 72 [(.t 117),(.t 119)]),.mk none (.faddr 121 11 (.t 4)),.mk none (.store 1 (.t 121) (.t 120))]
def f25r5:LA:=[.mk none (.faddr 124 13 (.t 4)),.mk none (.load 125 1 false (.t 124)),.mk none (.bin 126 .or (.t 125) (.v (.k (.c (.int .i64 2))))),.mk none (.faddr 127 13 (.t 4)),.mk none (.store 1 (.t 127) (.t 126))]
def f25r6:LA:=[.mk none (.load 130 8 true (.t 2)),.mk none (.mov 131 (.t 9)),.mk none (.call (some 132) 68 [(.t 131),(.v (.k (.c (.int .i64 1))))]),.mk none (.call (some 133) 72 [(.t 130),(.t 132)]),.mk none (.faddr 134 0 (.t 4)),.mk none (.store 1 (.t 134) (.t 133))]
def f25b7:AQ:=(.cond (.t 128) (.draw f25r6 [[],[],[1],[0,2,2],[0,1,2,3],[4,3,3,0,1,2,3]]) .skip)
def f25r8:LA:=[.mk none (.bin 129 .eql (.t 114) (.v (.k (.c (.str [115,105,103,110,101,100]))))),.mk none (.mov 128 (.t 129))]
def f25b9:AQ:=(.seq (.region f25r8) f25b7)
def f25b10:AQ:=(.cond (.t 122) (.region f25r5) f25b9)
def f25r11:LA:=[.mk none (.bin 123 .eql (.t 114) (.v (.k (.c (.str [119,105,116,104,111,117,116]))))),.mk none (.mov 122 (.t 123))]
def f25b12:AQ:=(.seq (.region f25r11) f25b10)
def f25b13:AQ:=(.cond (.t 115) (.draw f25r4 [[],[],[1],[0,2,2],[0,1,2,3],[4,3,3,0,1,2,3]]) f25b12)
def f25r14:LA:=[.mk none (.bin 116 .eql (.t 114) (.v (.k (.c (.str [105,110]))))),.mk none (.mov 115 (.t 116))]
def f25b15:AQ:=(.seq (.region f25r14) f25b13)
def f25b16:AQ:=(.block 4 f25b15)
def f25r17:LA:=[.mk none (.mov 113 (.t 9)),.mk none (.call (some 114) 68 [(.t 113),(.v (.k (.c (.int .i64 0))))])]
def f25b18:AQ:=(.seq (.region f25r17) f25b16)
def f25r19:LA:=[.mk none (.iaddr 111 1 (.t 107) (.t 109)),.mk none (.load 112 1 false (.t 111)),.mk none (.mov 9 (.t 112))]
def f25b20:AQ:=(.seq (.region f25r19) f25b18)
def f25b21:AQ:=(.block 3 f25b20)
def f25b22:AQ:=(.seq f25b21 (.region f25r3))
def f25b23:AQ:=(.cond (.t 110) .skip (.exit 2))
def f25b24:AQ:=(.seq f25b23 f25b22)
def f25r25:LA:=[.mk none (.bin 110 .lss (.t 109) (.t 108))]
def f25b26:AQ:=(.seq (.region f25r25) f25b24)
def f25l27:AQ:=.loop [1,2,4,107,108,109] [2,4] f25b26
def f25b28:AQ:=(.block 2 f25l27)
def f25r29:LA:=[.mk none (.mov 106 (.t 1)),.mk none (.slice 107 1 (.t 106) (some (.v (.k (.c (.int .i64 6))))) none),.mk none (.len 108 (.t 107)),.mk none (.mov 109 (.v (.k (.c (.int .i64 0)))))]
def f25b30:AQ:=(.seq (.region f25r29) f25b28)
def f25b31:AQ:=(.seq f25b30 f25b2)
def f25r32:LA:=[.mk none (.load 92 8 true (.t 2)),.mk none (.mov 93 (.t 1)),.mk none (.iaddr 94 1 (.t 93) (.v (.k (.c (.int .i64 5))))),.mk none (.load 95 1 false (.t 94)),.mk none (.call (some 96) 68 [(.t 95),(.v (.k (.c (.int .i64 4))))]),.mk none (.call (some 97) 72 [(.t 92),(.t 96)]),.mk none (.load 98 8 true (.t 2)),.mk none (.mov 99 (.t 1)),.mk none (.iaddr 100 1 (.t 99) (.v (.k (.c (.int .i64 5))))),.mk none (.load 101 1 false (.t 100)),.mk none (.call (some 102) 68 [(.t 101),(.v (.k (.c (.int .i64 6))))]),.mk none (.call (some 103) 67 [(.t 98),(.t 102)]),.mk none (.faddr 104 1 (.t 4)),.mk none (.store 1 (.t 104) (.t 97)),.mk none (.faddr 105 10 (.t 4)),.mk none (.store 1 (.t 105) (.t 103))]
def f25b33:AQ:=(.seq (.draw f25r32 [[],[],[1],[2],[3],[0,4,4],[],[],[7],[8],[9,5],[6,10,10],[0,1,2,3,4,5],[12,5,11,0,1,2,3,4,5],[0,1,2,3,4,5,6,7,8,9,10,11,12,13],[14,11,13,0,1,2,3,4,5,6,7,8,9,10,11,12,13]]) f25b31)
def f25r34:LA:=[.mk none (.mov 85 (.t 1)),.mk none (.iaddr 86 1 (.t 85) (.v (.k (.c (.int .i64 4))))),.mk none (.load 87 1 false (.t 86)),.mk none (.call (some 88) 68 [(.t 87),(.v (.k (.c (.int .i64 5))))]),.mk none (.call (some 89) 71 [(.t 88)]),.mk none (.minmax 90 true (.v (.k (.c (.int .i64 0)))) [(.t 89)]),.mk none (.faddr 91 12 (.t 4)),.mk none (.store 1 (.t 91) (.t 90))]
def f25b35:AQ:=(.seq (.region f25r34) f25b33)
def f25r36:LA:=[.mk none (.bin 84 .add (.t 71) (.v (.k (.c (.int .i64 1))))),.mk none (.mov 71 (.t 84))]
def f25r37:LA:=[.mk none (.mov 82 (.t 6)),.mk none (.faddr 83 4 (.t 4)),.mk none (.store 1 (.t 83) (.t 82))]
def f25b38:AQ:=(.cond (.t 81) (.region f25r37) .skip)
def f25r39:LA:=[.mk none (.mov 76 (.t 7)),.mk none (.mov 77 (.t 1)),.mk none (.iaddr 78 1 (.t 77) (.v (.k (.c (.int .i64 4))))),.mk none (.load 79 1 false (.t 78)),.mk none (.call (some 80) 68 [(.t 79),(.v (.k (.c (.int .i64 1))))]),.mk none (.bin 81 .eql (.t 76) (.t 80))]
def f25b40:AQ:=(.seq (.region f25r39) f25b38)
def f25r41:LA:=[.mk none (.mov 73 (.t 71)),.mk none (.iaddr 74 1 (.t 69) (.t 71)),.mk none (.load 75 1 false (.t 74)),.mk none (.mov 6 (.t 73)),.mk none (.mov 7 (.t 75))]
def f25b42:AQ:=(.seq (.region f25r41) f25b40)
def f25b43:AQ:=(.block 1 f25b42)
def f25b44:AQ:=(.seq f25b43 (.region f25r36))
def f25b45:AQ:=(.cond (.t 72) .skip (.exit 0))
def f25b46:AQ:=(.seq f25b45 f25b44)
def f25r47:LA:=[.mk none (.bin 72 .lss (.t 71) (.t 70))]
def f25b48:AQ:=(.seq (.region f25r47) f25b46)
def f25l49:AQ:=.loop [1,2,4,69,70,71] [2,4] f25b48
def f25b50:AQ:=(.block 0 f25l49)
def f25r51:LA:=[.mk none (.faddr 68 0 (.t 2)),.mk none (.load 69 1 false (.t 68)),.mk none (.len 70 (.t 69)),.mk none (.mov 71 (.v (.k (.c (.int .i64 0)))))]
def f25b52:AQ:=(.seq (.region f25r51) f25b50)
def f25b53:AQ:=(.seq f25b52 f25b35)
def f25r54:LA:=[.mk none (.mov 62 (.t 1)),.mk none (.iaddr 63 1 (.t 62) (.v (.k (.c (.int .i64 4))))),.mk none (.load 64 1 false (.t 63)),.mk none (.call (some 65) 68 [(.t 64),(.v (.k (.c (.int .i64 0))))]),.mk none (.call (some 66) 71 [(.t 65)]),.mk none (.faddr 67 3 (.t 4)),.mk none (.store 1 (.t 67) (.t 66))]
def f25b55:AQ:=(.seq (.region f25r54) f25b53)
def f25r56:LA:=[.mk none (.faddr 58 13 (.t 4)),.mk none (.load 59 1 false (.t 58)),.mk none (.bin 60 .or (.t 59) (.v (.k (.c (.int .i64 4))))),.mk none (.faddr 61 13 (.t 4)),.mk none (.store 1 (.t 61) (.t 60))]
def f25b57:AQ:=(.cond (.t 57) (.region f25r56) .skip)
def f25r58:LA:=[.mk none (.mov 53 (.t 1)),.mk none (.iaddr 54 1 (.t 53) (.v (.k (.c (.int .i64 3))))),.mk none (.load 55 1 false (.t 54)),.mk none (.call (some 56) 68 [(.t 55),(.v (.k (.c (.int .i64 2))))]),.mk none (.bin 57 .eql (.t 56) (.v (.k (.c (.str [110,111,116])))))]
def f25b59:AQ:=(.seq (.region f25r58) f25b57)
def f25r60:LA:=[.mk none (.load 46 8 true (.t 2)),.mk none (.mov 47 (.t 1)),.mk none (.iaddr 48 1 (.t 47) (.v (.k (.c (.int .i64 3))))),.mk none (.load 49 1 false (.t 48)),.mk none (.call (some 50) 68 [(.t 49),(.v (.k (.c (.int .i64 1))))]),.mk none (.call (some 51) 72 [(.t 46),(.t 50)]),.mk none (.faddr 52 2 (.t 4)),.mk none (.store 1 (.t 52) (.t 51))]
def f25b61:AQ:=(.seq (.draw f25r60 [[],[],[1],[2],[3],[0,4,4],[0,1,2,3,4,5],[6,5,5,0,1,2,3,4,5]]) f25b59)
def f25b62:AQ:=(.cond (.t 45) f25b61 .skip)
def f25r63:LA:=[.mk none (.mov 41 (.t 1)),.mk none (.iaddr 42 1 (.t 41) (.v (.k (.c (.int .i64 3))))),.mk none (.load 43 1 false (.t 42)),.mk none (.len 44 (.t 43)),.mk none (.bin 45 .gtr (.t 44) (.v (.k (.c (.int .i64 2)))))]
def f25b64:AQ:=(.seq (.region f25r63) f25b62)
def f25b65:AQ:=(.seq f25b64 (.keep [1,2,4] [2,4] f25b55))
def f25r66:LA:=[.mk none (.mov 35 (.t 1)),.mk none (.iaddr 36 1 (.t 35) (.v (.k (.c (.int .i64 0))))),.mk none (.load 37 1 false (.t 36)),.mk none (.call (some 38) 68 [(.t 37),(.v (.k (.c (.int .i64 3))))]),.mk none (.call (some 39) 71 [(.t 38)]),.mk none (.faddr 40 14 (.t 4)),.mk none (.store 1 (.t 40) (.t 39))]
def f25b67:AQ:=(.seq (.region f25r66) f25b65)
def f25r68:LA:=[.mk none (.faddr 31 13 (.t 4)),.mk none (.load 32 1 false (.t 31)),.mk none (.bin 33 .or (.t 32) (.v (.k (.c (.int .i64 1))))),.mk none (.faddr 34 13 (.t 4)),.mk none (.store 1 (.t 34) (.t 33))]
def f25b69:AQ:=(.cond (.t 30) (.region f25r68) .skip)
def f25r70:LA:=[.mk none (.mov 26 (.t 1)),.mk none (.iaddr 27 1 (.t 26) (.v (.k (.c (.int .i64 0))))),.mk none (.load 28 1 false (.t 27)),.mk none (.call (some 29) 68 [(.t 28),(.v (.k (.c (.int .i64 0))))]),.mk none (.bin 30 .eql (.t 29) (.v (.k (.c (.str [98,105,108,108])))))]
def f25b71:AQ:=(.seq (.region f25r70) f25b69)
def f25b72:AQ:=(.seq f25b71 (.keep [1,2,4] [2,4] f25b67))
def f25r73:LA:=[.mk none (.load 10 8 true (.t 2)),.mk none (.mov 11 (.t 1)),.mk none (.iaddr 12 1 (.t 11) (.v (.k (.c (.int .i64 1))))),.mk none (.load 13 1 false (.t 12)),.mk none (.call (some 14) 68 [(.t 13),(.v (.k (.c (.int .i64 2))))]),.mk none (.call (some 15) 67 [(.t 10),(.t 14)]),.mk none (.mov 16 (.t 1)),.mk none (.iaddr 17 1 (.t 16) (.v (.k (.c (.int .i64 1))))),.mk none (.load 18 1 false (.t 17)),.mk none (.call (some 19) 68 [(.t 18),(.v (.k (.c (.int .i64 4))))]),.mk none (.call (some 20) 69 [(.t 19)]),.mk none (.mov 21 (.t 1)),.mk none (.iaddr 22 1 (.t 21) (.v (.k (.c (.int .i64 2))))),.mk none (.load 23 1 false (.t 22)),.mk none (.call (some 24) 70 [(.t 23)]),(AI.mk none (.build 25 [(.int .i64 0),(.int .i64 0),(.int .i64 0),(.int .i64 0),(.int .i64 0),(.int .i64 0),(.int .i64 0),(.int .i64 0),(.int .i64 0),(.int .i64 0),(.int .i64 0),(.int .i64 0),(.int .i64 0),(.int .i64 0),(.int .i64 0)] [(2,(1,(.v (.k (.c (.int .i64 (-1))))))),(11,(1,(.v (.k (.c (.int .i64 (-1))))))),(4,(1,(.v (.k (.c (.int .i64 (-1))))))),(9,(1,(.t 15))),(8,(1,(.t 20))),(5,(3,(.t 24)))])),.mk none (.store 15 (.t 4) (.t 25))]
def f25b74:AQ:=(.seq (.draw f25r73 [[],[],[1],[2],[3],[0,4,4],[],[6],[7],[8,5],[9,9],[],[11],[12],[13,10],[5,10,14],[15,14,0,1,2,3,4,5,6,7,8,9,10,11,12,13,14,15]]) f25b72)
def f25r75:LA:=[.mk none (.box 2 31 (.t 0)),.mk none (.alloc 4 35 [(.int .i64 0),(.int .i64 0),(.int .i64 0),(.int .i64 0),(.int .i64 0),(.int .i64 0),(.int .i64 0),(.int .i64 0),(.int .i64 0),(.int .i64 0),(.int .i64 0),(.int .i64 0),(.int .i64 0),(.int .i64 0),(.int .i64 0)]),.mk none (.mov 5 (.v (.k (.c (.int .i64 0)))))]
def f25b76:AQ:=(.seq (.region f25r75) (.frz 2 f25b74))
def f25:AQ:=f25b76
theorem hf25:zH Tryz.prog 25=some ⟨143,f25.erase,[(RX.cell 4 15 true),(RX.t 5)]⟩:=by kernel_rfl
theorem okf25:f25.ok=true:=by kernel_rfl
def f9r1:LA:=[.mk none (.load 5 8 true (.t 2)),.mk none (.call (some 6) 20 [(.t 5)]),.mk none (.mov 7 (.t 6)),.mk (some (7,true)) (.mov 8 (.t 1)),.mk (some (7,true)) (.lenS 9 (.t 8)),.mk (some (7,true)) (.bin 10 .leq (.t 9) (.v (.k (.c (.int .i64 1000))))),.mk none (.pick 11 (.t 7) (.t 10) (.v (.k (.c (.bool false))))),.mk none (.mov 4 (.t 11))]
def f9b2:AQ:=(.seq (.region f9r1) .ret)
def f9r3:LA:=[.mk none (.box 2 31 (.t 0)),.mk none (.mov 4 (.v (.k (.c (.bool false)))))]
def f9b4:AQ:=(.seq (.region f9r3) f9b2)
def f9:AQ:=f9b4
theorem hf9:zH Tryz.prog 9=some ⟨12,f9.erase,[(RX.t 4)]⟩:=by kernel_rfl
theorem okf9:f9.ok=true:=by kernel_rfl
def f16r1:LA:=[.mk none (.mov 27 (.t 9)),.mk none (.bin 28 .eql (.t 27) (.v (.k (.c (.int .i64 0))))),.mk none (.mov 29 (.t 28)),.mk (some (29,true)) (.mov 30 (.t 12)),.mk (some (29,true)) (.bin 31 .eql (.t 30) (.v (.k (.c (.int .i64 0))))),.mk none (.pick 32 (.t 29) (.t 31) (.v (.k (.c (.bool false))))),.mk none (.mov 33 (.t 32)),.mk (some (33,true)) (.load 34 15 true (.t 7)),.mk (some (33,true)) (.load 35 15 true (.t 10)),.mk (some (33,true)) (.eqAgg 36 false [.int,.int,.int,.int,.int,.int,.int,.int,.int,.int,.int,.int,.int,.int,.int] (.t 34) (.t 35)),.mk none (.pick 37 (.t 33) (.t 36) (.v (.k (.c (.bool false))))),.mk none (.mov 6 (.t 37))]
def f16b2:AQ:=(.seq (.region f16r1) .ret)
def f16r3:LA:=[.mk none (.load 21 8 true (.t 3)),.mk none (.mov 22 (.t 2)),.mk none (.call (some 23) 10 [(.t 21),(.t 22)]),.mk none (.mov 20 (.t 23)),.mk none (.extr 24 (.t 20) 0),.mk none (.extr 25 (.t 20) 1),.mk none (.extr 26 (.t 20) 2),.mk none (.alloc 10 35 [(.int .i64 0),(.int .i64 0),(.int .i64 0),(.int .i64 0),(.int .i64 0),(.int .i64 0),(.int .i64 0),(.int .i64 0),(.int .i64 0),(.int .i64 0),(.int .i64 0),(.int .i64 0),(.int .i64 0),(.int .i64 0),(.int .i64 0)]),.mk none (.store 15 (.t 10) (.t 24)),.mk none (.mov 11 (.t 25)),.mk none (.mov 12 (.t 26))]
def f16b4:AQ:=(.seq (.region f16r3) f16b2)
def f16r5:LA:=[.mk none (.load 14 8 true (.t 3)),.mk none (.mov 15 (.t 1)),.mk none (.call (some 16) 10 [(.t 14),(.t 15)]),.mk none (.mov 13 (.t 16)),.mk none (.extr 17 (.t 13) 0),.mk none (.extr 18 (.t 13) 1),.mk none (.extr 19 (.t 13) 2),.mk none (.alloc 7 35 [(.int .i64 0),(.int .i64 0),(.int .i64 0),(.int .i64 0),(.int .i64 0),(.int .i64 0),(.int .i64 0),(.int .i64 0),(.int .i64 0),(.int .i64 0),(.int .i64 0),(.int .i64 0),(.int .i64 0),(.int .i64 0),(.int .i64 0)]),.mk none (.store 15 (.t 7) (.t 17)),.mk none (.mov 8 (.t 18)),.mk none (.mov 9 (.t 19))]
def f16b6:AQ:=(.seq (.region f16r5) f16b4)
def f16r7:LA:=[.mk none (.box 3 31 (.t 0)),.mk none (.mov 6 (.v (.k (.c (.bool false)))))]
def f16b8:AQ:=(.seq (.region f16r7) f16b6)
def f16:AQ:=f16b8
theorem hf16:zH Tryz.prog 16=some ⟨38,f16.erase,[(RX.t 6)]⟩:=by kernel_rfl
theorem okf16:f16.ok=true:=by kernel_rfl
def f18r1:LA:=[.mk none (.mov 26 (.t 3)),.mk none (.mov 2 (.t 26))]
def f18b2:AQ:=(.seq (.region f18r1) .ret)
def f18r3:LA:=[.mk none (.mov 11 (.t 5)),.mk none (.bin 12 .add (.t 11) (.v (.k (.c (.int .i64 1))))),.mk none (.mov 5 (.t 12))]
def f18r4:LA:=[.mk none (.mov 24 (.t 5)),.mk none (.bin 25 .add (.t 24) (.v (.k (.c (.int .i64 1))))),.mk none (.mov 4 (.t 25))]
def f18r5:LA:=[.mk none (.mov 17 (.t 3)),.mk none (.mov 18 (.t 0)),.mk none (.mov 19 (.t 4)),.mk none (.mov 20 (.t 5)),.mk none (.slstr 21 (.t 18) (some (.t 19)) (some (.t 20))),.mk none (.bslice 22 9 1 [(.str [])] 1 [(0,(.t 21))]),.mk none (.append 23 9 1 16 (.t 17) (.t 22)),.mk none (.mov 3 (.t 23))]
def f18b6:AQ:=(.seq (.region f18r5) (.region f18r4))
def f18b7:AQ:=(.cond (.t 16) f18b6 .skip)
def f18r8:LA:=[.mk none (.mov 13 (.t 0)),.mk none (.mov 14 (.t 5)),.mk none (.sidx 15 (.t 13) (.t 14)),.mk none (.bin 16 .eql (.t 15) (.v (.k (.c (.int .u8 10)))))]
def f18b9:AQ:=(.seq (.region f18r8) f18b7)
def f18b10:AQ:=(.block 1 f18b9)
def f18b11:AQ:=(.seq f18b10 (.region f18r3))
def f18b12:AQ:=(.cond (.t 10) .skip (.exit 0))
def f18r13:LA:=[.mk none (.mov 7 (.t 5)),.mk none (.mov 8 (.t 0)),.mk none (.lenS 9 (.t 8)),.mk none (.bin 10 .lss (.t 7) (.t 9))]
def f18b14:AQ:=(.seq (.region f18r13) f18b12)
def f18b15:AQ:=(.seq f18b14 f18b11)
def f18l16:AQ:=.loop [0,3,4,5] [6,23] f18b15
def f18b17:AQ:=(.block 0 f18l16)
def f18r18:LA:=[.mk none (.mov 5 (.v (.k (.c (.int .i64 0)))))]
def f18b19:AQ:=(.seq (.region f18r18) f18b17)
def f18b20:AQ:=(.seq f18b19 f18b2)
def f18r21:LA:=[.mk none (.mov 4 (.v (.k (.c (.int .i64 0)))))]
def f18b22:AQ:=(.seq (.region f18r21) f18b20)
def f18r23:LA:=[.mk none (.bslice 6 9 1 [(.str [])] 0 []),.mk none (.mov 3 (.t 6))]
def f18b24:AQ:=(.seq (.region f18r23) f18b22)
def f18r25:LA:=[.mk none (.nilL 2 9 1)]
def f18b26:AQ:=(.seq (.region f18r25) f18b24)
def f18:AQ:=f18b26
theorem hf18:zH Tryz.prog 18=some ⟨27,f18.erase,[(RX.t 2)]⟩:=by kernel_rfl
theorem okf18:f18.ok=true:=by kernel_rfl
def f19r1o0:AI:=.mk none (.load 16 8 true (.t 2))
def f19r1o1:AI:=.mk none (.load 17 15 true (.t 3))
def f19r1o2:AI:=.mk none (.store 8 (.t 0) (.t 16))
def f19r1o3:AI:=.mk none (.store 15 (.t 1) (.t 17))
def f19r1:LA:=[f19r1o0,f19r1o1,f19r1o2,f19r1o3]
theorem zkN:qJ f19r1 [[],[],[0,0],[1,2,0,1,2]]=(.one f19r1o0 (.alt (.one f19r1o1 (.one f19r1o2 (.one f19r1o3 .done))) (.alt (.one f19r1o2 (.one f19r1o1 (.one f19r1o3 .done))) .top))):=by kernel_rfl
def f19b2:AQ:=(.seq (.tree f19r1 [[],[],[0,0],[1,2,0,1,2]]) (.keep [0,1] [0,1,4,6,8,11,13] .ret))
def f19r3:LA:=[(AI.mk none (.build 15 [(.int .i64 0),(.int .i64 0),(.int .i64 0),(.int .i64 0),(.int .i64 0),(.int .i64 0),(.int .i64 0),(.int .i64 0),(.int .i64 0),(.int .i64 0),(.int .i64 0),(.int .i64 0),(.int .i64 0),(.int .i64 0),(.int .i64 0)] [(0,(1,(.v (.k (.c (.int .i64 0)))))),(1,(1,(.v (.k (.c (.int .i64 1)))))),(2,(1,(.v (.k (.c (.int .i64 (-1))))))),(3,(1,(.v (.k (.c (.int .i64 500)))))),(8,(1,(.v (.k (.c (.int .i64 59)))))),(11,(1,(.v (.k (.c (.int .i64 (-1))))))),(13,(1,(.v (.k (.c (.int .i64 1)))))),(14,(1,(.v (.k (.c (.int .i64 2))))))])),.mk none (.alloc 3 35 [(.int .i64 0),(.int .i64 0),(.int .i64 0),(.int .i64 0),(.int .i64 0),(.int .i64 0),(.int .i64 0),(.int .i64 0),(.int .i64 0),(.int .i64 0),(.int .i64 0),(.int .i64 0),(.int .i64 0),(.int .i64 0),(.int .i64 0)]),.mk none (.store 15 (.t 3) (.t 15))]
def f19b4:AQ:=(.seq (.region f19r3) f19b2)
def f19r5:LA:=[.mk none (.bslice 4 9 1 [(.str [])] 1 [(0,(.v (.k (.c (.str [102,114,97,110,99])))))]),.mk none (.build 5 [(.str []),(.int .i64 0),(.int .i64 0),(.list 0 (some true) []),(.list 0 (some true) []),(.list 0 (some true) [])] [(0,(1,(.v (.k (.c (.str [76,121,111,110]))))))]),.mk none (.bslice 6 91 6 [(.str []),(.int .i64 0),(.int .i64 0),(.list 0 (some true) []),(.list 0 (some true) []),(.list 0 (some true) [])] 1 [(0,(.t 5))]),.mk none (.build 7 [(.int .i64 0)] [(0,(1,(.v (.k (.c (.int .i64 3))))))]),.mk none (.bslice 8 98 1 [(.int .i64 0)] 1 [(0,(.t 7))]),.mk none (.build 9 [(.str []),(.int .i64 0),(.int .i64 0)] [(0,(1,(.v (.k (.c (.str [66,111,100,109,101,114]))))))]),.mk none (.build 10 [(.str []),(.int .i64 0),(.int .i64 0)] [(0,(1,(.v (.k (.c (.str [72,111,112,101]))))))]),.mk none (.bslice 11 94 3 [(.str []),(.int .i64 0),(.int .i64 0)] 2 [(0,(.t 9)),(1,(.t 10))]),.mk none (.build 12 [(.str []),(.bool false),(.list 0 (some true) []),(.list 0 (some true) [])] [(0,(1,(.v (.k (.c (.str [103,101,110,101,118,97]))))))]),.mk none (.bslice 13 102 4 [(.str []),(.bool false),(.list 0 (some true) []),(.list 0 (some true) [])] 1 [(0,(.t 12))]),.mk none (.build 14 [(.list 0 (some true) []),(.list 0 (some true) []),(.list 0 (some true) []),(.list 0 (some true) []),(.list 0 (some true) []),(.list 0 (some true) []),(.list 0 (some true) []),(.list 0 (some true) [])] [(0,(1,(.t 4))),(1,(1,(.t 6))),(2,(1,(.t 8))),(3,(1,(.t 11))),(4,(1,(.t 13)))]),.mk none (.alloc 2 31 [(.list 0 (some true) []),(.list 0 (some true) []),(.list 0 (some true) []),(.list 0 (some true) []),(.list 0 (some true) []),(.list 0 (some true) []),(.list 0 (some true) []),(.list 0 (some true) [])]),.mk none (.store 8 (.t 2) (.t 14))]
def f19b6:AQ:=(.seq (.region f19r5) f19b4)
def f19r7:LA:=[.mk none (.alloc 0 31 [(.list 0 (some true) []),(.list 0 (some true) []),(.list 0 (some true) []),(.list 0 (some true) []),(.list 0 (some true) []),(.list 0 (some true) []),(.list 0 (some true) []),(.list 0 (some true) [])]),.mk none (.alloc 1 35 [(.int .i64 0),(.int .i64 0),(.int .i64 0),(.int .i64 0),(.int .i64 0),(.int .i64 0),(.int .i64 0),(.int .i64 0),(.int .i64 0),(.int .i64 0),(.int .i64 0),(.int .i64 0),(.int .i64 0),(.int .i64 0),(.int .i64 0)])]
def f19b8:AQ:=(.seq (.region f19r7) f19b6)
def f19:AQ:=f19b8
theorem hf19:zH Tryz.prog 19=some ⟨18,f19.erase,[(RX.cell 0 8 true),(RX.cell 1 15 true)]⟩:=by kernel_rfl
theorem okf19:f19.ok=true:=by kernel_rfl
def f20r1:LA:=[.mk none (.faddr 73 0 (.t 1)),.mk none (.load 74 1 false (.t 73)),.mk none (.len 75 (.t 74)),.mk none (.bin 76 .lss (.t 75) (.v (.k (.c (.int .i64 50))))),.mk none (.mov 77 (.t 76)),.mk (some (77,true)) (.faddr 78 1 (.t 1)),.mk (some (77,true)) (.load 79 1 false (.t 78)),.mk (some (77,true)) (.len 80 (.t 79)),.mk (some (77,true)) (.bin 81 .lss (.t 80) (.v (.k (.c (.int .i64 50))))),.mk none (.pick 82 (.t 77) (.t 81) (.v (.k (.c (.bool false))))),.mk none (.mov 83 (.t 82)),.mk (some (83,true)) (.faddr 84 2 (.t 1)),.mk (some (83,true)) (.load 85 1 false (.t 84)),.mk (some (83,true)) (.len 86 (.t 85)),.mk (some (83,true)) (.bin 87 .lss (.t 86) (.v (.k (.c (.int .i64 50))))),.mk none (.pick 88 (.t 83) (.t 87) (.v (.k (.c (.bool false))))),.mk none (.mov 89 (.t 88)),.mk (some (89,true)) (.faddr 90 3 (.t 1)),.mk (some (89,true)) (.load 91 1 false (.t 90)),.mk (some (89,true)) (.len 92 (.t 91)),.mk (some (89,true)) (.bin 93 .lss (.t 92) (.v (.k (.c (.int .i64 210))))),.mk none (.pick 94 (.t 89) (.t 93) (.v (.k (.c (.bool false))))),.mk none (.mov 95 (.t 94)),.mk (some (95,true)) (.faddr 96 4 (.t 1)),.mk (some (95,true)) (.load 97 1 false (.t 96)),.mk (some (95,true)) (.len 98 (.t 97)),.mk (some (95,true)) (.bin 99 .lss (.t 98) (.v (.k (.c (.int .i64 50))))),.mk none (.pick 100 (.t 95) (.t 99) (.v (.k (.c (.bool false))))),.mk none (.mov 101 (.t 100)),.mk (some (101,true)) (.faddr 102 5 (.t 1)),.mk (some (101,true)) (.load 103 1 false (.t 102)),.mk (some (101,true)) (.len 104 (.t 103)),.mk (some (101,true)) (.bin 105 .lss (.t 104) (.v (.k (.c (.int .i64 110))))),.mk none (.pick 106 (.t 101) (.t 105) (.v (.k (.c (.bool false))))),.mk none (.mov 107 (.t 106)),.mk (some (107,true)) (.faddr 108 6 (.t 1)),.mk (some (107,true)) (.load 109 1 false (.t 108)),.mk (some (107,true)) (.len 110 (.t 109)),.mk (some (107,true)) (.bin 111 .lss (.t 110) (.v (.k (.c (.int .i64 110))))),.mk none (.pick 112 (.t 107) (.t 111) (.v (.k (.c (.bool false))))),.mk none (.mov 113 (.t 112)),.mk (some (113,true)) (.faddr 114 7 (.t 1)),.mk (some (113,true)) (.load 115 1 false (.t 114)),.mk (some (113,true)) (.len 116 (.t 115)),.mk (some (113,true)) (.bin 117 .lss (.t 116) (.v (.k (.c (.int .i64 50))))),.mk none (.pick 118 (.t 113) (.t 117) (.v (.k (.c (.bool false))))),.mk none (.mov 2 (.t 118))]
def f20b2:AQ:=(.seq (.region f20r1) .ret)
def f20r3:LA:=[.mk none (.mov 53 (.t 4)),.mk none (.bin 54 .add (.t 53) (.v (.k (.c (.int .i64 1))))),.mk none (.mov 4 (.t 54))]
def f20r4:LA:=[.mk none (.mov 2 (.v (.k (.c (.bool false)))))]
def f20b5:AQ:=(.seq (.region f20r4) .ret)
def f20b6:AQ:=(.cond (.t 72) f20b5 .skip)
def f20r7:LA:=[.mk none (.faddr 55 4 (.t 1)),.mk none (.load 56 1 false (.t 55)),.mk none (.mov 57 (.t 4)),.mk none (.iaddr 58 4 (.t 56) (.t 57)),.mk none (.faddr 59 2 (.t 58)),.mk none (.load 60 1 false (.t 59)),.mk none (.len 61 (.t 60)),.mk none (.bin 62 .gtr (.t 61) (.v (.k (.c (.int .i64 40))))),.mk none (.mov 63 (.t 62)),.mk (some (63,false)) (.faddr 64 4 (.t 1)),.mk (some (63,false)) (.load 65 1 false (.t 64)),.mk (some (63,false)) (.mov 66 (.t 4)),.mk (some (63,false)) (.iaddr 67 4 (.t 65) (.t 66)),.mk (some (63,false)) (.faddr 68 3 (.t 67)),.mk (some (63,false)) (.load 69 1 false (.t 68)),.mk (some (63,false)) (.len 70 (.t 69)),.mk (some (63,false)) (.bin 71 .gtr (.t 70) (.v (.k (.c (.int .i64 40))))),.mk none (.pick 72 (.t 63) (.v (.k (.c (.bool true)))) (.t 71))]
def f20b8:AQ:=(.seq (.region f20r7) f20b6)
def f20b9:AQ:=(.block 3 f20b8)
def f20b10:AQ:=(.seq f20b9 (.region f20r3))
def f20b11:AQ:=(.cond (.t 52) .skip (.exit 2))
def f20r12:LA:=[.mk none (.mov 44 (.t 4)),.mk none (.faddr 45 4 (.t 1)),.mk none (.load 46 1 false (.t 45)),.mk none (.len 47 (.t 46)),.mk none (.bin 48 .lss (.t 44) (.t 47)),.mk none (.mov 49 (.t 48)),.mk (some (49,true)) (.mov 50 (.t 4)),.mk (some (49,true)) (.bin 51 .lss (.t 50) (.v (.k (.c (.int .i64 50))))),.mk none (.pick 52 (.t 49) (.t 51) (.v (.k (.c (.bool false)))))]
def f20b13:AQ:=(.seq (.region f20r12) f20b11)
def f20b14:AQ:=(.seq f20b13 f20b10)
def f20l15:AQ:=.loop [1,4] [1] f20b14
def f20b16:AQ:=(.block 2 f20l15)
def f20r17:LA:=[.mk none (.mov 4 (.v (.k (.c (.int .i64 0)))))]
def f20b18:AQ:=(.seq (.region f20r17) f20b16)
def f20b19:AQ:=(.seq f20b18 f20b2)
def f20r20:LA:=[.mk none (.mov 14 (.t 3)),.mk none (.bin 15 .add (.t 14) (.v (.k (.c (.int .i64 1))))),.mk none (.mov 3 (.t 15))]
def f20r21:LA:=[.mk none (.mov 2 (.v (.k (.c (.bool false)))))]
def f20b22:AQ:=(.seq (.region f20r21) .ret)
def f20b23:AQ:=(.cond (.t 43) f20b22 .skip)
def f20r24:LA:=[.mk none (.faddr 16 1 (.t 1)),.mk none (.load 17 1 false (.t 16)),.mk none (.mov 18 (.t 3)),.mk none (.iaddr 19 6 (.t 17) (.t 18)),.mk none (.faddr 20 4 (.t 19)),.mk none (.load 21 1 false (.t 20)),.mk none (.len 22 (.t 21)),.mk none (.bin 23 .gtr (.t 22) (.v (.k (.c (.int .i64 70))))),.mk none (.mov 24 (.t 23)),.mk (some (24,false)) (.faddr 25 1 (.t 1)),.mk (some (24,false)) (.load 26 1 false (.t 25)),.mk (some (24,false)) (.mov 27 (.t 3)),.mk (some (24,false)) (.iaddr 28 6 (.t 26) (.t 27)),.mk (some (24,false)) (.faddr 29 5 (.t 28)),.mk (some (24,false)) (.load 30 1 false (.t 29)),.mk (some (24,false)) (.len 31 (.t 30)),.mk (some (24,false)) (.bin 32 .gtr (.t 31) (.v (.k (.c (.int .i64 210))))),.mk none (.pick 33 (.t 24) (.v (.k (.c (.bool true)))) (.t 32)),.mk none (.mov 34 (.t 33)),.mk (some (34,false)) (.faddr 35 1 (.t 1)),.mk (some (34,false)) (.load 36 1 false (.t 35)),.mk (some (34,false)) (.mov 37 (.t 3)),.mk (some (34,false)) (.iaddr 38 6 (.t 36) (.t 37)),.mk (some (34,false)) (.faddr 39 3 (.t 38)),.mk (some (34,false)) (.load 40 1 false (.t 39)),.mk (some (34,false)) (.len 41 (.t 40)),.mk (some (34,false)) (.bin 42 .gtr (.t 41) (.v (.k (.c (.int .i64 8))))),.mk none (.pick 43 (.t 34) (.v (.k (.c (.bool true)))) (.t 42))]
def f20b25:AQ:=(.seq (.region f20r24) f20b23)
def f20b26:AQ:=(.block 1 f20b25)
def f20b27:AQ:=(.seq f20b26 (.region f20r20))
def f20b28:AQ:=(.cond (.t 13) .skip (.exit 0))
def f20r29:LA:=[.mk none (.mov 5 (.t 3)),.mk none (.faddr 6 1 (.t 1)),.mk none (.load 7 1 false (.t 6)),.mk none (.len 8 (.t 7)),.mk none (.bin 9 .lss (.t 5) (.t 8)),.mk none (.mov 10 (.t 9)),.mk (some (10,true)) (.mov 11 (.t 3)),.mk (some (10,true)) (.bin 12 .lss (.t 11) (.v (.k (.c (.int .i64 50))))),.mk none (.pick 13 (.t 10) (.t 12) (.v (.k (.c (.bool false)))))]
def f20b30:AQ:=(.seq (.region f20r29) f20b28)
def f20b31:AQ:=(.seq f20b30 f20b27)
def f20l32:AQ:=.loop [1,3] [1] f20b31
def f20b33:AQ:=(.block 0 f20l32)
def f20r34:LA:=[.mk none (.mov 3 (.v (.k (.c (.int .i64 0)))))]
def f20b35:AQ:=(.seq (.region f20r34) f20b33)
def f20b36:AQ:=(.seq f20b35 f20b19)
def f20r37:LA:=[.mk none (.box 1 31 (.t 0)),.mk none (.mov 2 (.v (.k (.c (.bool false)))))]
def f20b38:AQ:=(.seq (.region f20r37) f20b36)
def f20:AQ:=f20b38
theorem hf20:zH Tryz.prog 20=some ⟨119,f20.erase,[(RX.t 2)]⟩:=by kernel_rfl
theorem okf20:f20.ok=true:=by kernel_rfl
end Go.Abs
namespace Go.Abs
theorem wrap_in {n:Int} (h1: -9223372036854775808≤n) (h2:n≤9223372036854775807):IntKind.i64.wrap n=n:=IntWalk.i64_in n ⟨h1,h2⟩
def zB (sz:Nat) (rows:List (List C)):C:=.list (if rows.isEmpty then 0 else sz) none rows
abbrev lst (sz:Nat) (rows:List (List C)):V:=.k (.c (zB sz rows))
def zN (l:List Int):List (List C):=l.map fun n=>[.int .i64 n]
theorem vN {α:Type} {f:α→List C} (hf: ∀x,C.normRow (f x)=f x) (l:List α):C.normRows (l.map f)=l.map f:=by
 induction l with
 |nil=>rfl
 |cons a l ih=>simp[C.normRows,hf,ih]
theorem tL {α:Type} {f:α→List C} (hf: ∀x,C.normRow (f x)=f x) (sz:Nat) (l:List α):(zB sz (l.map f)).norm=zB sz (l.map f):=by
 unfold zB
 simp only[C.norm,vN hf]
 cases l<;>simp
inductive Term where
 |mk (op n:Int) (args:List Term)
 deriving Inhabited
def Term.op:Term→Int| .mk o _ _=>o
def Term.n:Term→Int| .mk _ n _=>n
def Term.args:Term→List Term| .mk _ _ a=>a
mutual
def vE:Term→List C
 | .mk o n a=>[.int .i64 o,.int .i64 n,zB 3 (encTs a)]
def encTs:List Term→List (List C)
 |[]=>[]
 |t::l=>vE t::encTs l
end
theorem zg2: ∀(l:List Term),encTs l=l.map vE
 |[]=>rfl
 |t::l=>by simp[encTs,zg2 l]
theorem rL (t:Term):vE t=[.int .i64 t.op,.int .i64 t.n,zB 3 (t.args.map vE)]:=by
 cases t with
 |mk o n a=>simp[vE,Term.op,Term.n,Term.args,zg2]
mutual
theorem jO: ∀(t:Term),C.normRow (vE t)=vE t
 | .mk o n a=>by
   simp only[vE,C.normRow,C.norm,zB,encTs_norm a]
   cases a<;>simp[encTs]
theorem encTs_norm: ∀(l:List Term),C.normRows (encTs l)=encTs l
 |[]=>rfl
 |t::l=>by simp only[encTs,C.normRows,jO t,encTs_norm l]
end
structure Choice where
 ask:Int
 by_:Int
 whole:Bool
 deriving Inhabited
structure Rule where
 ask:Int
 term:Term
 deriving Inhabited
structure Order where
 name:List UInt8
 accepts:Bool
 choices:List Choice
 rules:List Rule
 deriving Inhabited
def vF (c:Choice):List C:=[.int .i64 c.ask,.int .i64 c.by_,.bool c.whole]
def wX (r:Rule):List C:=.int .i64 r.ask::vE r.term
def wF (o:Order):List C:=[.str o.name,.bool o.accepts,zB 3 (o.choices.map vF),zB 4 (o.rules.map wX)]
theorem dX (c:Choice):C.normRow (vF c)=vF c:=rfl
theorem dY (r:Rule):C.normRow (wX r)=wX r:=by simp[wX,C.normRow,C.norm,jO]
theorem oR (o:Order):C.normRow (wF o)=wF o:=by
 simp only[wF,C.normRow,C.norm,tL dX,tL dY]
structure Cell where
 known:Bool
 n:Int
 deriving Inhabited
def tM (c:Cell):List C:=[.bool c.known,.int .i64 c.n]
theorem zg3 (c:Cell):C.normRow (tM c)=tM c:=rfl
def zg4 (n:Int):List C:=[.int .i64 n]
@[simp] theorem znE (k:IntKind) (n:Int):C.normRow [.int k n]=[.int k n]:=rfl
@[simp] theorem znF (n:Int):C.normRow (zg4 n)=zg4 n:=rfl
attribute [simp] jO dX dY oR zg3 C.normRow
@[simp] theorem znG (k:IntKind) (n:Int):(C.int k n).norm=.int k n:=rfl
@[simp] theorem znH (b:Bool):(C.bool b).norm=.bool b:=rfl
@[simp] theorem znI (s:List UInt8):(C.str s).norm=.str s:=rfl
@[simp] theorem znJ (row:List C) (off:Nat):(C.ro row off).norm=.ro (C.normRow row) off:=rfl
@[simp] theorem znK (f:FuncId) (caps:List C):(C.fn f caps).norm=.fn f (C.normRow caps):=rfl
@[simp] theorem znL (l:List Term):C.normRows (l.map vE)=l.map vE:=vN jO l
@[simp] theorem mG (l:List Choice):C.normRows (l.map vF)=l.map vF:=vN dX l
@[simp] theorem dZ (l:List Rule):C.normRows (l.map wX)=l.map wX:=vN dY l
@[simp] theorem znM (l:List Order):C.normRows (l.map wF)=l.map wF:=vN oR l
@[simp] theorem znN (l:List Cell):C.normRows (l.map tM)=l.map tM:=vN zg3 l
@[simp] theorem vA (l:List Int):C.normRows (zN l)=zN l:=vN (fun _=>rfl) l
@[simp] theorem znO:C.normRows []=[]:=rfl
@[simp] theorem znP (r:List C) (l:List (List C)):C.normRows (r::l)=C.normRow r::C.normRows l:=rfl
@[simp] theorem zU (l:List Int):(zN l).length=l.length:=by simp[zN]
@[simp] theorem znQ (l:List Int):(zN l).isEmpty=l.isEmpty:=by cases l<;>rfl
theorem zg5 (o:Nat→Option O) (sz:Nat) (rows:List (List C)):vLen o (.k (.c (zB sz rows)))=some (True,.int .i64 rows.length):=rfl
theorem zg6 (o:Nat→Option O) (sz:Nat) (rows:List (List C)) (k:IntKind) (n:Int):vIaddr o sz (.k (.c (zB sz rows))) (.k (.c (.int k n)))=some (0≤n∧n<rows.length,.k (.pel sz rows n.toNat 0)):=by
 simp only[zB,vIaddr,Option.some.injEq,Prod.mk.injEq]
 cases rows with
 |nil=>simp;omega
 |cons a l=>
  refine⟨?_,?_⟩
  ·simp
  ·simp
def cA (sz:Nat) (rows:List (List C)):Option Int→Option Int→Option (Prop×V)
 |some l,some h=>some (0≤l∧l≤h∧h≤rows.length,.list sz none ((rows.take h.toNat).drop l.toNat))
 |_,_=>none
theorem cB (sz:Nat) (lo hi:Option V) (rows:List (List C)):tA sz lo hi (.k (.c (zB sz rows)))=cA sz rows (vBound 0 lo) (vBound rows.length hi):=by
 simp only[zB,tA]
 generalize vBound 0 lo=a
 generalize vBound (↑rows.length) hi=b
 cases a<;>cases b<;>simp only[nK,cA]
 simp only[Option.some.injEq,Prod.mk.injEq,and_true]
 cases rows<;>simp
theorem cC (sz:Nat) (rows:List (List C)) (l h:Int):cA sz rows (some l) (some h)=some (0≤l∧l≤h∧h≤rows.length,.list sz none ((rows.take h.toNat).drop l.toNat)):=id rfl
@[simp] theorem xT (sz:Nat) (rows:List (List C)):(zB sz rows).norm=zB sz (C.normRows rows):=by
  unfold zB
  simp only[C.norm]
  cases rows<;>simp[C.normRows]
@[simp] theorem zW (sz:Nat) (nl:Option Bool) (rows:List (List C)):(C.list sz nl rows).norm=zB sz (C.normRows rows):=by
  unfold zB
  simp only[C.norm]
  cases rows<;>simp[C.normRows]
theorem zkO (d:Nat) (r:List C):(r.map Abs.K.c).all (Abs.K.noRef d)=true:=by induction r<;>simp_all [Abs.K.noRef]
theorem zg7 {sz:Nat} {rows:List (List C)} {l:List V} (hm:lst sz rows∈l) (h: ∀v,v∈l→ ∀c,c∈v.topC→ ∀sz nl rows,c=.list sz nl rows→rows.length≤9223372036854775807):rows.length≤9223372036854775807:=
 h _ hm (zB sz rows) (by simp[V.topC]) _ _ _ rfl
theorem znV:(true==false)=false:=id rfl
theorem znW:(false==true)=false:=id rfl
section
variable {P : Program} {f : FuncId} {vs : List V} {K : KK} {d : Nat} {ts : TS} {os : OS}
theorem zC {args:List V} {r:V} {X:Prop} (hs:Spec P f args (fun r'=>r'=r)) (hk:K (insT d r ts) os)
  (hp:vs.all (fun v=>(zD os v).isPure)=true:=by simp[zD,wW,lookO,V.isPure])
  (ha:vs.map (fun v=>(zD os v).norm)=args:=by simp[zD,wW,lookO,V.norm,rL,wX,wF,vF,tM,zW,lst]) (hr:r.scalar=true:=by rfl):sE P f vs [] K (some d) ts os∨X:=by
 refine .inl ⟨hp,r,.inl ?_,?_⟩
 ·simpa [ha] using hs
 ·rw[if_pos hr];exact hk
theorem cD {cs:List C} {args:List V} {r:V} {X:Prop} (hs:Spec P f args (fun r'=>r'=r)) (hk:K (insT d r ts) os)
  (hp:vs.all (fun v=>(zD os v).isPure)=true:=by simp[zD,wW,lookO,V.isPure])
  (ha:(vs.map (fun v=>(zD os v).norm)++cs.map fun c=> .k (.c c.norm))=args:=by simp[zD,wW,lookO,V.norm,rL,wX,wF,vF,tM,zW,lst]) (hr:r.scalar=true:=by rfl):sE P f vs cs K (some d) ts os∨X:=by
 refine .inl ⟨hp,r,.inl (by rw[ha];exact hs),?_⟩
 rw[if_pos hr];exact hk
theorem sG {args:List V} {r:V} {X:Prop} (hs:Spec P f args (fun r'=>r'=r)) (hk:retK r K ts os (some d))
  (hp:vs.all (fun v=>(zD os v).isPure)=true:=by simp[zD,wW,lookO,V.isPure])
  (ha:vs.map (fun v=>(zD os v).norm)=args:=by simp[zD,wW,lookO,V.norm,rL,wX,wF,vF,tM,zW,lst])
  (ht:vs.all (fun v=>v.toks.isEmpty)=true:=by simp[V.toks,K.toks]) (hr:r.scalar=false:=by rfl):sE P f vs [] K (some d) ts os∨X:=by
 refine .inl ⟨hp,r,.inl (by simpa [ha] using hs),?_⟩
 rw[if_neg (by simp[hr])]
 exact⟨ht,hk⟩
theorem zkP {args:List V} {e sz:Nat} {nl:Option Bool} {rows:List (List C)} {X:Prop} (hs:Spec P f args (fun r'=>r'=.k (.newl e sz nl rows))) (hk:K (insT d (.k (.own d)) ts) (insO d (.arr e sz nl rows) os))
  (hp:vs.all (fun v=>(zD os v).isPure)=true:=by simp[zD,wW,lookO,V.isPure])
  (ha:vs.map (fun v=>(zD os v).norm)=args:=by simp[zD,wW,lookO,V.norm,rL,wX,wF,vF,tM,zW,lst])
  (ht:vs.all (fun v=>v.toks.isEmpty)=true:=by simp[V.toks,K.toks]) (hf:freeB d ts os:=by first|rfl|simp[freeB,freeT,freeO,V.noRef,V.noRefL,O.noRef,Abs.K.noRef,zkO]):sE P f vs [] K (some d) ts os∨X:=by
 refine .inl ⟨hp,_,.inl (by simpa [ha] using hs),?_⟩
 rw[if_neg (by simp[V.scalar])]
 refine⟨ht,?_⟩
 show regK _ _ _ _ _ _
 refine⟨⟨⟨hf,.inl rfl⟩,trivial⟩,hk⟩
theorem yV {args:List V} {r:V} (hs:Spec P f args (fun r'=>r'=r)) (hk:K (insT d r.fz ts) os)
  (hp:vs.all (fun v=>(zD os v).isPure)=true:=by simp[zD,wW,lookO,V.isPure])
  (ha:vs.map (fun v=>(zD os v).norm)=args:=by simp[zD,wW,lookO,V.norm,rL,wX,wF,vF,tM,zW,lst]) (hr:r.scalar=true:=by rfl):nV P f vs [] K d ts os:=
 ⟨hp,r,by simpa [ha] using hs,.inl hr,hk⟩
theorem zkQ {args:List V} {r:V} (hs:Spec P f args (fun r'=>r'=r)) (hk:K (insT d r.fz ts) os)
  (hp:vs.all (fun v=>(zD os v).isPure)=true:=by simp[zD,wW,lookO,V.isPure])
  (ha:vs.map (fun v=>(zD os v).norm)=args:=by simp[zD,wW,lookO,V.norm,rL,wX,wF,vF,tM,zW,lst]) (hr:vs.all (fun v=>v.toks.isEmpty)=true:=by simp[V.toks,K.toks]):nV P f vs [] K d ts os:=
 ⟨hp,r,by simpa [ha] using hs,.inr hr,hk⟩
end
end Go.Abs
set_option maxRecDepth 100000
namespace Go.Abs
theorem Qs:((((((((type_of% @zc6∧type_of% @zbE)∧(type_of% @zc3∧type_of% @zca))∧((type_of% @zcg∧type_of% @true_and)∧(type_of% @zbF∧(type_of% @zcw∧type_of% @zdx))))∧(((type_of% @zb9∧type_of% @zc4)∧(type_of% @zdi∧type_of% @zc9))∧((type_of% @zdc∧type_of% @zf4)∧(type_of% @zf5∧(type_of% @and_self∧type_of% @Nat.zero_add)))))∧((((type_of% @zdd∧type_of% @zdo)∧(type_of% @zgx∧type_of% @zdy))∧((type_of% @zdz∧type_of% @zcE)∧(type_of% @zdA∧(type_of% @zdC∧type_of% @zeC))))∧(((type_of% @zeD∧type_of% @zeE)∧(type_of% @zgz∧(type_of% @zgi∧type_of% @zgj)))∧((type_of% @Bool.false_eq_true∧type_of% @zgy)∧(type_of% @zf9∧(type_of% @zgr∧type_of% @zf7))))))∧(((((type_of% @zf6∧type_of% @zbG)∧(type_of% @zfb∧type_of% @zfi))∧((type_of% @zfm∧type_of% @zdg)∧(type_of% @ze8∧(type_of% @ze9∧type_of% @zfa))))∧(((type_of% @zfc∧type_of% @zei)∧(type_of% @zej∧(type_of% @zcC∧type_of% @zfJ)))∧((type_of% @zfK∧type_of% @zfd)∧(type_of% @zft∧(type_of% @zfA∧type_of% @zfx)))))∧((((type_of% @zfD∧type_of% @zfg)∧(type_of% @zd4∧type_of% @zd5))∧((type_of% @zd6∧type_of% @zf8)∧(type_of% @zeF∧(type_of% @zcy∧type_of% @zeg))))∧(((type_of% @Nat.le_refl∧type_of% @zen)∧(type_of% @zdZ∧(type_of% @zcJ∧type_of% @zc8)))∧((type_of% @xT∧type_of% @zgs)∧(type_of% @zgt∧(type_of% @zgA∧type_of% @zfo)))))))∧((((((type_of% @zd9∧type_of% @zfr)∧(type_of% @zcm∧type_of% @zcn))∧((type_of% @zgv∧type_of% @zdk)∧(type_of% @zcN∧(type_of% @zdJ∧type_of% @vA))))∧(((type_of% @zcq∧type_of% @decide_true)∧(type_of% @zfM∧type_of% @zfN))∧((type_of% @zde∧type_of% @zdQ)∧(type_of% @zdR∧(type_of% @zdS∧type_of% @zcj)))))∧((((type_of% @zc7∧type_of% @zfj)∧(type_of% @zcF∧type_of% @zgu))∧((type_of% @zc5∧type_of% @zdv)∧(type_of% @decide_false∧(type_of% @zci∧type_of% @zdw))))∧(((type_of% @Bool.and_true∧type_of% @zcP)∧(type_of% @zg5∧(type_of% @zeI∧type_of% @zeJ)))∧((type_of% @zeK∧type_of% @zeL)∧(type_of% @Bool.or_true∧(type_of% @Nat.add_zero∧type_of% @zfl))))))∧(((((type_of% @zbH∧type_of% @zfL)∧(type_of% @zd7∧type_of% @not_false_eq_true))∧((type_of% @zeO∧type_of% @Int.toNat_natCast)∧(type_of% @zg6∧(type_of% @zcv∧type_of% @zdn))))∧(((type_of% @zeN∧type_of% @zeQ)∧(type_of% @zeh∧(type_of% @zco∧type_of% @zga)))∧((type_of% @zd3∧type_of% @zgm)∧(type_of% @zgo∧(type_of% @zgp∧type_of% @zdH)))))∧((((type_of% @zdL∧type_of% @zea)∧(type_of% @zeM∧type_of% @Bool.false_or))∧((type_of% @zch∧type_of% @zcK)∧(type_of% @zeS∧(type_of% @zeU∧type_of% @zfn))))∧(((type_of% @zcc∧type_of% @zem)∧(type_of% @zew∧(type_of% @zex∧type_of% @zcA)))∧((type_of% @zeq∧type_of% @zcD)∧(type_of% @zdD∧(type_of% @zdl∧type_of% @Bool.true_and))))))))∧(((((((type_of% @Bool.and_eq_true∧type_of% @zel)∧(type_of% @zcz∧type_of% @zeb))∧((type_of% @zct∧type_of% @zdf)∧(type_of% @zdj∧(type_of% @zdm∧type_of% @zcS))))∧(((type_of% @zdI∧type_of% @zU)∧(type_of% @zcU∧type_of% @zck))∧((type_of% @zcb∧type_of% @zdB)∧(type_of% @zd0∧(type_of% @zfQ∧type_of% @zfS)))))∧((((type_of% @zcr∧type_of% @zgb)∧(type_of% @zdM∧type_of% @zc1))∧((type_of% @zd8∧type_of% @zcZ)∧(type_of% @zdO∧(type_of% @zdE∧type_of% @zda))))∧(((type_of% @zcY∧type_of% @zeT)∧(type_of% @or_false∧(type_of% @zdK∧type_of% @zgd)))∧((type_of% @zcW∧type_of% @zet)∧(type_of% @zgc∧(type_of% @zgf∧type_of% @zd2))))))∧(((((type_of% @zfH∧type_of% @zes)∧(type_of% @zeu∧type_of% @zeZ))∧((type_of% @ze5∧type_of% @zge)∧(type_of% @zgg∧(type_of% @zfs∧type_of% @zfh))))∧(((type_of% @zd1∧type_of% @zeG)∧(type_of% @zeH∧(type_of% @ze2∧type_of% @ze7)))∧((type_of% @zek∧type_of% @zgn)∧(type_of% @ze3∧(type_of% @zfu∧type_of% @zfy)))))∧((((type_of% @zfz∧type_of% @zfC)∧(type_of% @zfF∧type_of% @zfG))∧((type_of% @zbW∧type_of% @zeR)∧(type_of% @zeV∧(type_of% @ze6∧type_of% @zcT))))∧(((type_of% @zgw∧type_of% @zcB)∧(type_of% @zev∧(type_of% @Int.natCast_nonneg∧type_of% @zcQ)))∧((type_of% @zdU∧type_of% @zgk)∧(type_of% @zgl∧(type_of% @zfI∧type_of% @zfk)))))))∧((((((type_of% @zfp∧type_of% @zfq)∧(type_of% @zgB∧type_of% @zcO))∧((type_of% @zdT∧type_of% @zeY)∧(type_of% @zcM∧(type_of% @zgR∧type_of% @zgS))))∧(((type_of% @zeP∧type_of% @zeW)∧(type_of% @zfO∧type_of% @zfP))∧((type_of% @zgE∧type_of% @zgG)∧(type_of% @zgJ∧(type_of% @zgK∧type_of% @ze4)))))∧((((type_of% @zgT∧type_of% @zgU)∧(type_of% @zgI∧type_of% @zcR))∧((type_of% @zep∧type_of% @zey)∧(type_of% @zez∧(type_of% @zeA∧type_of% @zeB))))∧(((type_of% @ze0∧type_of% @zdG)∧(type_of% @zdh∧(type_of% @zdp∧type_of% @zdq)))∧((type_of% @zdr∧type_of% @zds)∧(type_of% @zdt∧(type_of% @zgh∧type_of% @zeX))))))∧(((((type_of% @zcu∧type_of% @zgF)∧(type_of% @zdW∧type_of% @zdX))∧((type_of% @zdN∧type_of% @zfV)∧(type_of% @zfW∧(type_of% @zfX∧type_of% @zfY))))∧(((type_of% @zfZ∧type_of% @zf0)∧(type_of% @zf1∧(type_of% @zf2∧type_of% @zf3)))∧((type_of% @zcL∧type_of% @zdY)∧(type_of% @zdF∧(type_of% @zcx∧type_of% @zcX)))))∧((((type_of% @Int.toNat_zero∧type_of% @dM)∧(type_of% @dN∧type_of% @dO))∧((type_of% @dP∧type_of% @dQ)∧(type_of% @zec∧(type_of% @zed∧type_of% @zfe))))∧(((type_of% @zff∧type_of% @zfv)∧(type_of% @zfB∧(type_of% @zbV∧type_of% @zbX)))∧((type_of% @zcV∧type_of% @zdu)∧(type_of% @zgO∧(type_of% @ze1∧type_of% @zcs))))))))):=⟨⟨⟨⟨⟨⟨⟨⟨@zc6,@zbE⟩,⟨@zc3,@zca⟩⟩,⟨⟨@zcg,@true_and⟩,⟨@zbF,⟨@zcw,@zdx⟩⟩⟩⟩,⟨⟨⟨@zb9,@zc4⟩,⟨@zdi,@zc9⟩⟩,⟨⟨@zdc,@zf4⟩,⟨@zf5,⟨@and_self,@Nat.zero_add⟩⟩⟩⟩⟩,⟨⟨⟨⟨@zdd,@zdo⟩,⟨@zgx,@zdy⟩⟩,⟨⟨@zdz,@zcE⟩,⟨@zdA,⟨@zdC,@zeC⟩⟩⟩⟩,⟨⟨⟨@zeD,@zeE⟩,⟨@zgz,⟨@zgi,@zgj⟩⟩⟩,⟨⟨@Bool.false_eq_true,@zgy⟩,⟨@zf9,⟨@zgr,@zf7⟩⟩⟩⟩⟩⟩,⟨⟨⟨⟨⟨@zf6,@zbG⟩,⟨@zfb,@zfi⟩⟩,⟨⟨@zfm,@zdg⟩,⟨@ze8,⟨@ze9,@zfa⟩⟩⟩⟩,⟨⟨⟨@zfc,@zei⟩,⟨@zej,⟨@zcC,@zfJ⟩⟩⟩,⟨⟨@zfK,@zfd⟩,⟨@zft,⟨@zfA,@zfx⟩⟩⟩⟩⟩,⟨⟨⟨⟨@zfD,@zfg⟩,⟨@zd4,@zd5⟩⟩,⟨⟨@zd6,@zf8⟩,⟨@zeF,⟨@zcy,@zeg⟩⟩⟩⟩,⟨⟨⟨@Nat.le_refl,@zen⟩,⟨@zdZ,⟨@zcJ,@zc8⟩⟩⟩,⟨⟨@xT,@zgs⟩,⟨@zgt,⟨@zgA,@zfo⟩⟩⟩⟩⟩⟩⟩,⟨⟨⟨⟨⟨⟨@zd9,@zfr⟩,⟨@zcm,@zcn⟩⟩,⟨⟨@zgv,@zdk⟩,⟨@zcN,⟨@zdJ,@vA⟩⟩⟩⟩,⟨⟨⟨@zcq,@decide_true⟩,⟨@zfM,@zfN⟩⟩,⟨⟨@zde,@zdQ⟩,⟨@zdR,⟨@zdS,@zcj⟩⟩⟩⟩⟩,⟨⟨⟨⟨@zc7,@zfj⟩,⟨@zcF,@zgu⟩⟩,⟨⟨@zc5,@zdv⟩,⟨@decide_false,⟨@zci,@zdw⟩⟩⟩⟩,⟨⟨⟨@Bool.and_true,@zcP⟩,⟨@zg5,⟨@zeI,@zeJ⟩⟩⟩,⟨⟨@zeK,@zeL⟩,⟨@Bool.or_true,⟨@Nat.add_zero,@zfl⟩⟩⟩⟩⟩⟩,⟨⟨⟨⟨⟨@zbH,@zfL⟩,⟨@zd7,@not_false_eq_true⟩⟩,⟨⟨@zeO,@Int.toNat_natCast⟩,⟨@zg6,⟨@zcv,@zdn⟩⟩⟩⟩,⟨⟨⟨@zeN,@zeQ⟩,⟨@zeh,⟨@zco,@zga⟩⟩⟩,⟨⟨@zd3,@zgm⟩,⟨@zgo,⟨@zgp,@zdH⟩⟩⟩⟩⟩,⟨⟨⟨⟨@zdL,@zea⟩,⟨@zeM,@Bool.false_or⟩⟩,⟨⟨@zch,@zcK⟩,⟨@zeS,⟨@zeU,@zfn⟩⟩⟩⟩,⟨⟨⟨@zcc,@zem⟩,⟨@zew,⟨@zex,@zcA⟩⟩⟩,⟨⟨@zeq,@zcD⟩,⟨@zdD,⟨@zdl,@Bool.true_and⟩⟩⟩⟩⟩⟩⟩⟩,⟨⟨⟨⟨⟨⟨⟨@Bool.and_eq_true,@zel⟩,⟨@zcz,@zeb⟩⟩,⟨⟨@zct,@zdf⟩,⟨@zdj,⟨@zdm,@zcS⟩⟩⟩⟩,⟨⟨⟨@zdI,@zU⟩,⟨@zcU,@zck⟩⟩,⟨⟨@zcb,@zdB⟩,⟨@zd0,⟨@zfQ,@zfS⟩⟩⟩⟩⟩,⟨⟨⟨⟨@zcr,@zgb⟩,⟨@zdM,@zc1⟩⟩,⟨⟨@zd8,@zcZ⟩,⟨@zdO,⟨@zdE,@zda⟩⟩⟩⟩,⟨⟨⟨@zcY,@zeT⟩,⟨@or_false,⟨@zdK,@zgd⟩⟩⟩,⟨⟨@zcW,@zet⟩,⟨@zgc,⟨@zgf,@zd2⟩⟩⟩⟩⟩⟩,⟨⟨⟨⟨⟨@zfH,@zes⟩,⟨@zeu,@zeZ⟩⟩,⟨⟨@ze5,@zge⟩,⟨@zgg,⟨@zfs,@zfh⟩⟩⟩⟩,⟨⟨⟨@zd1,@zeG⟩,⟨@zeH,⟨@ze2,@ze7⟩⟩⟩,⟨⟨@zek,@zgn⟩,⟨@ze3,⟨@zfu,@zfy⟩⟩⟩⟩⟩,⟨⟨⟨⟨@zfz,@zfC⟩,⟨@zfF,@zfG⟩⟩,⟨⟨@zbW,@zeR⟩,⟨@zeV,⟨@ze6,@zcT⟩⟩⟩⟩,⟨⟨⟨@zgw,@zcB⟩,⟨@zev,⟨@Int.natCast_nonneg,@zcQ⟩⟩⟩,⟨⟨@zdU,@zgk⟩,⟨@zgl,⟨@zfI,@zfk⟩⟩⟩⟩⟩⟩⟩,⟨⟨⟨⟨⟨⟨@zfp,@zfq⟩,⟨@zgB,@zcO⟩⟩,⟨⟨@zdT,@zeY⟩,⟨@zcM,⟨@zgR,@zgS⟩⟩⟩⟩,⟨⟨⟨@zeP,@zeW⟩,⟨@zfO,@zfP⟩⟩,⟨⟨@zgE,@zgG⟩,⟨@zgJ,⟨@zgK,@ze4⟩⟩⟩⟩⟩,⟨⟨⟨⟨@zgT,@zgU⟩,⟨@zgI,@zcR⟩⟩,⟨⟨@zep,@zey⟩,⟨@zez,⟨@zeA,@zeB⟩⟩⟩⟩,⟨⟨⟨@ze0,@zdG⟩,⟨@zdh,⟨@zdp,@zdq⟩⟩⟩,⟨⟨@zdr,@zds⟩,⟨@zdt,⟨@zgh,@zeX⟩⟩⟩⟩⟩⟩,⟨⟨⟨⟨⟨@zcu,@zgF⟩,⟨@zdW,@zdX⟩⟩,⟨⟨@zdN,@zfV⟩,⟨@zfW,⟨@zfX,@zfY⟩⟩⟩⟩,⟨⟨⟨@zfZ,@zf0⟩,⟨@zf1,⟨@zf2,@zf3⟩⟩⟩,⟨⟨@zcL,@zdY⟩,⟨@zdF,⟨@zcx,@zcX⟩⟩⟩⟩⟩,⟨⟨⟨⟨@Int.toNat_zero,@dM⟩,⟨@dN,@dO⟩⟩,⟨⟨@dP,@dQ⟩,⟨@zec,⟨@zed,@zfe⟩⟩⟩⟩,⟨⟨⟨@zff,@zfv⟩,⟨@zfB,⟨@zbV,@zbX⟩⟩⟩,⟨⟨@zcV,@zdu⟩,⟨@zgO,⟨@ze1,@zcs⟩⟩⟩⟩⟩⟩⟩⟩⟩
end Go.Abs
namespace Go.Abs
section
variable {P : Program}
theorem wO {n:Nat} {t:TypeId} {r:List C} {k:IntKind} (hu:P.underlying t=some (.int k)) (h:yC P n t r): ∃m:Int,r=[.int k m]∧(Lit.int k m).wf=true:=by
 cases n with
 |zero=>exact h.elim
 |succ n=>simp only[yC,hu] at h;exact h
theorem zg8 {n:Nat} {t:TypeId} {r:List C} (hu:P.underlying t=some .bool) (h:yC P n t r): ∃b:Bool,r=[.bool b]:=by
 cases n with
 |zero=>exact h.elim
 |succ n=>simp only[yC,hu] at h;exact h
theorem mH {n:Nat} {t:TypeId} {r:List C} (hu:P.underlying t=some .string) (h:yC P n t r): ∃s:List UInt8,r=[.str s]∧s.length≤9223372036854775807:=by
 cases n with
 |zero=>exact h.elim
 |succ n=>simp only[yC,hu] at h;exact h
theorem uC {n:Nat} {t e:TypeId} {r:List C} (hu:P.underlying t=some (.slice e)) (h:yC P n t r): ∃m rows,n=m+1∧r=[zB (P.cellsOf e) rows]∧rows.length≤9223372036854775807∧ ∀x∈rows,yC P m e x:=by
 cases n with
 |zero=>exact h.elim
 |succ n=>simp only[yC,hu] at h;obtain⟨rows,h1,h2,h3⟩:=h;exact⟨n,rows,rfl,h1,h2,h3⟩
theorem tN {n:Nat} {t:TypeId} {fs:Array Field} {r:List C} (hu:P.underlying t=some (.struct fs)) (h:yC P n t r): ∃m rs,n=m+1∧r=rs.flatten∧uW (yC P m) (fs.toList.map (·.type)) rs:=by
 cases n with
 |zero=>exact h.elim
 |succ n=>simp only[yC,hu] at h;obtain⟨rs,h1,h2⟩:=h;exact⟨n,rs,rfl,h1,h2⟩
theorem zkR {S:TypeId→List C→Prop} {a b:TypeId} {rs:List (List C)} (h:uW S [a,b] rs): ∃x y,rs=[x,y]∧S a x∧S b y:=by
 match rs,h with
 |[x,y],h=>exact⟨x,y,rfl,h.1,h.2.1⟩
theorem jP {S:TypeId→List C→Prop} {a b c:TypeId} {rs:List (List C)} (h:uW S [a,b,c] rs): ∃x y z,rs=[x,y,z]∧S a x∧S b y∧S c z:=by
 match rs,h with
 |[x,y,z],h=>exact⟨x,y,z,rfl,h.1,h.2.1,h.2.2.1⟩
theorem zkS {S:TypeId→List C→Prop} {a b c d:TypeId} {rs:List (List C)} (h:uW S [a,b,c,d] rs): ∃x y z u,rs=[x,y,z,u]∧S a x∧S b y∧S c z∧S d u:=by
 match rs,h with
 |[x,y,z,u],h=>exact⟨x,y,z,u,rfl,h.1,h.2.1,h.2.2.1,h.2.2.2.1⟩
theorem tP {α:Type} {S:List C→Prop} (enc:α→List C) (hS: ∀r,S r→ ∃a,r=enc a): ∀(rows:List (List C)),(∀r∈rows,S r)→ ∃l:List α,rows=l.map enc
 |[],_=>⟨[],rfl⟩
 |r::rows,h=>by
  obtain⟨a,ha⟩:=hS r (h r (by simp))
  obtain⟨l,hl⟩:=tP enc hS rows (fun x hx=>h x (by simp[hx]))
  exact⟨a::l,by rw[ha,hl];rfl⟩
structure TermTypes (P:Program) (tI tB tS tT tLT tR tLR tC tLC tO:TypeId):Prop where
 i:P.underlying tI=some (.int .i64)
 b:P.underlying tB=some .bool
 s:P.underlying tS=some .string
 t: ∃fs,P.underlying tT=some (.struct fs)∧fs.toList.map (·.type)=[tI,tI,tLT]
 lt:P.underlying tLT=some (.slice tT)∧P.cellsOf tT=3
 r: ∃fs,P.underlying tR=some (.struct fs)∧fs.toList.map (·.type)=[tI,tT]
 lr:P.underlying tLR=some (.slice tR)∧P.cellsOf tR=4
 c: ∃fs,P.underlying tC=some (.struct fs)∧fs.toList.map (·.type)=[tI,tI,tB]
 lc:P.underlying tLC=some (.slice tC)∧P.cellsOf tC=3
 o: ∃fs,P.underlying tO=some (.struct fs)∧fs.toList.map (·.type)=[tS,tB,tLC,tLR]
variable {tI tB tS tT tLT tR tLR tC tLC tO : TypeId}
theorem zkT (h:TermTypes P tI tB tS tT tLT tR tLR tC tLC tO): ∀(n:Nat) (r:List C),yC P n tT r→ ∃t:Term,r=vE t:=by
 intro n
 induction n using Nat.strongRecOn with
 |ind n ih=>
  intro r hr
  obtain⟨fs,hf,hl⟩:=h.t
  obtain⟨m,rs,rfl,rfl,hs⟩:=tN hf hr
  rw[hl] at hs
  obtain⟨x,y,z,rfl,h1,h2,h3⟩:=jP hs
  obtain⟨op,rfl,_⟩:=wO h.i h1
  obtain⟨k,rfl,_⟩:=wO h.i h2
  obtain⟨m',rows,rfl,rfl,_,h4⟩:=uC h.lt.1 h3
  obtain⟨l,rfl⟩:=tP vE (fun r hr=>ih m' (by omega) r hr) rows h4
  exact⟨.mk op k l,by rw[rL,h.lt.2];rfl⟩
theorem zkU (h:TermTypes P tI tB tS tT tLT tR tLR tC tLC tO) {n:Nat} {r:List C} (hr:yC P n tR r): ∃x:Rule,r=wX x:=by
 obtain⟨fs,hf,hl⟩:=h.r
 obtain⟨m,rs,rfl,rfl,hs⟩:=tN hf hr
 rw[hl] at hs
 obtain⟨x,y,rfl,h1,h2⟩:=zkR hs
 obtain⟨a,rfl,_⟩:=wO h.i h1
 obtain⟨t,rfl⟩:=zkT h m y h2
 exact⟨⟨a,t⟩,by simp[wX]⟩
theorem zkV (h:TermTypes P tI tB tS tT tLT tR tLR tC tLC tO) {n:Nat} {r:List C} (hr:yC P n tC r): ∃x:Choice,r=vF x:=by
 obtain⟨fs,hf,hl⟩:=h.c
 obtain⟨m,rs,rfl,rfl,hs⟩:=tN hf hr
 rw[hl] at hs
 obtain⟨x,y,z,rfl,h1,h2,h3⟩:=jP hs
 obtain⟨a,rfl,_⟩:=wO h.i h1
 obtain⟨b,rfl,_⟩:=wO h.i h2
 obtain⟨c,rfl⟩:=zg8 h.b h3
 exact⟨⟨a,b,c⟩,rfl⟩
theorem zkW (h:TermTypes P tI tB tS tT tLT tR tLR tC tLC tO) {n:Nat} {r:List C} (hr:yC P n tO r): ∃x:Order,r=wF x:=by
 obtain⟨fs,hf,hl⟩:=h.o
 obtain⟨m,rs,rfl,rfl,hs⟩:=tN hf hr
 rw[hl] at hs
 obtain⟨x,y,z,u,rfl,h1,h2,h3,h4⟩:=zkS hs
 obtain⟨a,rfl,_⟩:=mH h.s h1
 obtain⟨b,rfl⟩:=zg8 h.b h2
 obtain⟨_,rows,_,rfl,_,h5⟩:=uC h.lc.1 h3
 obtain⟨_,rows',_,rfl,_,h6⟩:=uC h.lr.1 h4
 obtain⟨l,rfl⟩:=tP vF (fun r hr=>zkV h hr) rows h5
 obtain⟨l',rfl⟩:=tP wX (fun r hr=>zkU h hr) rows' h6
 exact⟨⟨a,b,l,l'⟩,by rw[h.lc.2,h.lr.2];rfl⟩
end
section
variable {P : Program}
end
end Go.Abs
set_option maxRecDepth 10000
namespace Go
open Go.RowKit
def uD (bs:Nat) (W W':World):Prop:=W'.heap[bs]?=W.heap[bs]?
def zg9 {α:Type} (F:Fence) (n:Nat) (P:Program) (g:Nat) (lb:Array Value) (encs:α→Array Value) (bs:Nat) (S:List α→Prop) (N:Nat) (w:World):Prop:=
 ∀(l:Nat) (J:List α→World→Prop) (W:World),Below w.heap.size w W→(∀pre W1 v,J pre W1→J pre (W1.setCell ⟨bs,0,none⟩ v))→(∀pre W1,J pre W1→J pre W1.drew)→
  (∀pre x W1,J pre W1→pre.length<N→YieldAt F (n-1) P l (encs x) W1 fun e W'=>e=.returned (.bool true)∧J (pre++[x]) W'∧uD bs W1 W')→
  J [] W→
  CallsIn F n P g (#[.func (.yield l) #[] #[]]++lb) W fun e W'=>(∃v,e=.returned v)∧ ∃xs,S xs∧J xs W'
def zkX {α:Type} (bs:Nat) (I:List α→World→Prop) (xs:List α) (W:World):Exit→Act→World→Prop
 | .normal,_,W'=>KeepsOthers W W'∧uD bs W W'∧I xs W'
 |_,_,_=>False
variable {F : Fence} {n : Nat} {P : Program}
theorem zkY {α:Type} {g:Operand} {ps:Array Tmp} {assign body:Code} {Q:Exit→Act→World→Prop} {a:Act} {w:World}
  (hro:F.round=none) (h1:1≤n) {gf:Nat} {lb:Array Value} (hg:a.eval g=.func (.func gf) #[] lb) (hFg:F.fn gf) (eg: ∀args w,(callFunc gf args).run P w=.ok (.enter gf args) w)
  {encs:α→Array Value} {bs:Nat} {S:List α→Prop} {N:Nat} {w0:World} (hseq:zg9 F (n-1) P gf lb encs bs S N w0) (hbs:bs<w.heap.size) (hb0:Below w0.heap.size w0 w) (hps: ∀x,(encs x).size=ps.size)
  (I:List α→World→Prop) (hI:OwnFrom w.heap.size I) (hIB: ∀pre W v,I pre W→I pre (W.setCell ⟨bs,0,none⟩ v)) (hID: ∀pre W,I pre W→I pre W.drew) (h0:I [] w) (a₁:α→Act)
  (hassign: ∀(l:Nat) (x:α) (W:World) (K:Act→World→Prop),K (a₁ x) W→
   assign.wpIn (F.inRound l) (n-1-1) P (Exit.then K (fun _ _ _=>False)) {tmps:=(ps.zip (encs x)).foldl (fun t (p,v)=>t.setIfInBounds p v) a.tmps,defers:=[]} W)
  (hbody: ∀(l:Nat) (pre:List α) (x:α) (W:World),I pre W→pre.length<N→body.wpIn (F.inRound l) (n-1-1) P (zkX bs I (pre++[x]) W) (a₁ x) W)
  (hdone: ∀(D:Nat) (xs:List α) (W:World),w.heap.size≤D→S xs→I xs W→W.heap[D]?=some (.deferred (some []))→Q .normal {a with defers:={target:=.collected D,args:= #[]}::a.defers} W):
  (Code.rangeFunc g ps assign body).wpIn F n P Q a w:=by
 refine wpIn_rangeFunc ?_
 intro fn hfn
 rw[hro]
 obtain⟨rec,hrec⟩: ∃rec:LoopState→Option Code→Loop,rec=fun st pe=>{state:=st,pending:=pe,fn,tmps:=a.tmps,params:=ps,assign,body,defers:=w.heap.size}:=⟨_,rfl⟩
 obtain⟨W1,hW1⟩: ∃W1,(w.alloc (.deferred (some []))).alloc (.loop (rec .ready none))=W1:=⟨_,rfl⟩
 have hL1:W1.heap[w.heap.size+1]?=some (.loop (rec .ready none)):=by
  rw[←hW1];have:=World.alloc_heap_new (w.alloc (.deferred (some []))) (.loop (rec .ready none));rwa [World.size_alloc] at this
 have hK1:W1.heap[w.heap.size]?=some (.deferred (some [])):=by
  rw[←hW1];exact(Below.heap_alloc _ _ _ (by simp)).trans (World.alloc_heap_new w _)
 have hI1:I [] W1:=by rw[←hW1];exact hI.alloc _ (hI.alloc _ h0)
 have hb1:Below w0.heap.size w0 W1:=by
  rw[←hW1];exact hb0.trans ((((Below.refl _ w).alloc (Nat.le_refl _) _).alloc (by simp) _).mono hb0.size)
 refine⟨w.heap.size+1,[{target:=.collected w.heap.size,args:= #[]}],W1,{target:=.fn (.func gf) lb,args:= #[.func (.yield (w.heap.size+1)) #[] #[]]},W1,gf,
  #[.func (.yield (w.heap.size+1)) #[] #[]]++lb,W1,?_,?_,?_,?_,fun _=>h1,?_⟩
 ·rw[←hW1,hrec];exact run_enterLoop_outer _ _ _ _ _
 ·simp only[resolve,hg]
  simp[go_sem]
 ·intro f' hf';simp[Target.leads] at hf';subst hf';exact hFg
 ·simp[invoke,go_sem,eg]
 ·refine(hseq (w.heap.size+1)
   (fun pre W=>I pre W∧W.heap[w.heap.size+1]?=some (.loop (rec .ready none))∧W.heap[w.heap.size]?=some (.deferred (some [])))
   W1 hb1
   (fun pre A v hs=>⟨hIB pre A v hs.1,(Below.heap_setCell _ _ _ _ (show w.heap.size+1≠bs by omega)).trans hs.2.1,(Below.heap_setCell _ _ _ _ (show w.heap.size≠bs by omega)).trans hs.2.2⟩)
   (fun pre A hs=>⟨hID pre A hs.1,hs.2.1,hs.2.2⟩)
   ?_ ⟨hI1,hL1,hK1⟩).mono ?_
  ·rintro pre x W ⟨hi,hl,hk⟩ hlen
   have hlt:w.heap.size+1<W.heap.size:=(Array.getElem?_eq_some_iff.1 hl).1
   have hy:=run_yield (P:=P) (args:=encs x) hl (by rw[hrec];exact hps x)
   rw[hrec] at hy
   refine⟨fn,_,assign,body,hy,roundIn_of_wpIn hfn (hassign _ x W _ ⟨_,run_beginRound hl (by rw[hrec]),?_⟩)⟩
   have hl2:(W.putObj (w.heap.size+1) (.loop {rec .ready none with state:=.busy})).heap[w.heap.size+1]?=some (.loop {rec .ready none with state:=.busy}):=World.putObj_heap_same hlt
   have hk2:(W.putObj (w.heap.size+1) (.loop {rec .ready none with state:=.busy})).heap[w.heap.size]?=some (.deferred (some [])):=(World.putObj_heap_other (by omega)).trans hk
   have hw2:uD bs W (W.putObj (w.heap.size+1) (.loop {rec .ready none with state:=.busy})):=World.putObj_heap_other (show bs≠w.heap.size+1 by omega)
   refine wpIn_mono (hbody _ pre x _ (hI.putObj _ hi (by omega) hl rfl) hlen) ?_
   rintro e a3 W3 hp
   cases e with
   |normal=>
    obtain⟨hk3,hkp3,hi3⟩:=hp
    have hl3:=hk3.same _ _ hl2 rfl
    have hr:=run_endRound (P:=P) none hl3
    rw[hrec] at hr hl3
    refine⟨_,_,hr,rfl,⟨hI.putObj _ hi3 (by omega) (hk3.same _ _ hl2 rfl) rfl,?_,(World.putObj_heap_other (by omega)).trans (hk3.same _ _ hk2 rfl)⟩,?_⟩
    ·rw[hrec];exact World.putObj_heap_same (Array.getElem?_eq_some_iff.1 hl3).1
    ·show _=_
     rw[World.putObj_heap_other (show bs≠w.heap.size+1 by omega)]
     exact Eq.trans hkp3 hw2
   |ret=>exact hp.elim
   |exit id=>exact hp.elim
   |goto t=>exact hp.elim
   |panic ch=>exact hp.elim
   |outgrown=>exact hp.elim
  ·rintro e W2 ⟨⟨v,rfl⟩,xs,hS,hi,hl,hk⟩
   exact⟨none,_,by have:=run_endLoop (P:=P) hl (by rw[hrec];simp);rw[hrec] at this;exact this,hdone _ xs _ (Nat.le_refl _) hS (hI.putObj _ hi (by omega) hl rfl) ((World.putObj_heap_other (by omega)).trans hk)⟩
end Go
set_option maxRecDepth 100000
namespace Go.Proofs
open Go.Shelf Go.RowKit
def Tryz.laysIdxB_ren:Go.Shelf.Ren:=
 {
  f:=fun x=>
   match x with
   |137=>64
   |217=>97
   |266=>122
   |n=>n,
  t:=fun x=>
   match x with
   |9=>9
   |5=>5
   |3=>3
   |n=>n,
  g:=fun n=>n}
theorem Tryz.laysIdxB:Go.Proofs.Lays.n137 Go.Proofs.Tryz.prog Go.Proofs.Tryz.laysIdxB_ren:=
 {mixed:=by kernel_rfl,
  f137:=Eq.trans Go.Proofs.Tryz.func64 (congrArg some (Eq.refl (Go.Proofs.Body.n137 Go.Proofs.Tryz.laysIdxB_ren))),
  f217:=Eq.trans Go.Proofs.Tryz.func97 (congrArg some (Eq.refl (Go.Proofs.Body.n217 Go.Proofs.Tryz.laysIdxB_ren))),
  f266:=Eq.trans Go.Proofs.Tryz.func122 (congrArg some (Eq.refl (Go.Proofs.Body.n266 Go.Proofs.Tryz.laysIdxB_ren))),
  t3:=Go.Proofs.Tryz.underlying3,a3:=Go.Proofs.Tryz.isAgg3,z3:=Go.Proofs.Tryz.sizeOf3,
  v3:=Go.Proofs.Tryz.zeroValue3,t5:=Go.Proofs.Tryz.underlying5,a5:=Go.Proofs.Tryz.isAgg5,
  z5:=Go.Proofs.Tryz.sizeOf5,v5:=Go.Proofs.Tryz.zeroValue5,t9:=Go.Proofs.Tryz.underlying9,
  a9:=Go.Proofs.Tryz.isAgg9,z9:=Go.Proofs.Tryz.sizeOf9,v9:=Go.Proofs.Tryz.zeroValue9}
end Go.Proofs
set_option maxRecDepth 10000
namespace Go.Wire
open Go.Lib
abbrev Txt:=List UInt8
theorem cE {d:Nat} (h:d<10):(UInt8.ofNat (48+d)).toNat=48+d:=by
 rw[UInt8.toNat_ofNat'];omega
theorem mI {u:Nat} (h:u<10):decDigits u=[UInt8.ofNat (48+u)]:=by rw[decDigits,dif_pos h]
theorem jQ {u:Nat} (h: ¬u<10):decDigits u=decDigits (u/10)++[UInt8.ofNat (48+u % 10)]:=by rw[decDigits,dif_neg h]
theorem zha (u:Nat): ∀c,c∈decDigits u→48≤c.toNat∧c.toNat≤57:=by
 induction u using Nat.strongRecOn with
 |_ u ih=>
  intro c hc
  by_cases h:u<10
  ·rw[mI h,List.mem_singleton] at hc
   subst hc
   rw[cE h];omega
  ·rw[jQ h,List.mem_append,List.mem_singleton] at hc
   rcases hc with hc|rfl
   ·exact ih (u/10) (by omega) c hc
   ·rw[cE (by omega)];omega
theorem cF (u:Nat):decDigits u≠[]:=by
 by_cases h:u<10
 ·rw[mI h];simp
 ·rw[jQ h];simp
theorem dec_len: ∀(k u:Nat),u<10 ^ (k+1)→(decDigits u).length≤k+1
 |0,u,h=>by rw[mI (by simpa using h)];simp
 |k+1,u,h=>by
  by_cases h10:u<10
  ·rw[mI h10];simp
  ·rw[jQ h10,List.length_append]
   have:=dec_len k (u/10) (by rw[Nat.pow_succ] at h;omega)
   simp only[List.length_singleton];omega
theorem zhb: ∀(l1 l2:Txt) (acc u:Nat),parseUint10 acc l1=.ok u→parseUint10 acc (l1++l2)=parseUint10 u l2
 |[],l2,acc,u,h=>by
  simp only[parseUint10] at h
  injection h with h
  rw[h];rfl
 |c::r,l2,acc,u,h=>by
  simp only[parseUint10] at h
  simp only[List.cons_append,parseUint10]
  split at h
  ·rename_i h1
   rw[if_pos h1]
   split at h
   ·cases h
   ·rename_i h2
    rw[if_neg h2]
    split at h
    ·cases h
    ·rename_i h3
     rw[if_neg h3]
     exact zhb r l2 _ u h
  ·cases h
theorem zhc {acc d:Nat} (hd:d<10) (h:acc*10+d<18446744073709551616):parseUint10 acc [UInt8.ofNat (48+d)]=.ok (acc*10+d):=by
 simp only[parseUint10,cE hd]
 rw[if_pos (by omega),if_neg (by omega),if_neg (by omega)]
 congr 1;omega
theorem zkZ (u:Nat) (hu:u<18446744073709551616):parseUint10 0 (decDigits u)=.ok u:=by
 induction u using Nat.strongRecOn with
 |_ u ih=>
  by_cases h:u<10
  ·rw[mI h,zhc h (by omega)];congr 1;omega
  ·rw[jQ h,zhb _ _ 0 (u/10) (ih (u/10) (by omega) (by omega)),zhc (by omega) (by omega)]
   congr 1;omega
def inI (n:Int):Prop:= -9223372036854775808≤n∧n≤9223372036854775807
theorem zhd (u:Nat) (hu:u<18446744073709551616):parseMag (decDigits u)=.ok u:=by
 rw[parseMag,if_neg (cF u),zkZ u hu]
theorem zhe {n:Int} (h:inI n):atoiAll (itoa n)=.ok n:=by
 unfold itoa
 by_cases hn:n<0
 ·rw[if_pos hn]
  have h1:=zhd n.natAbs (by have:=h.1;omega)
  have e45:(45:UInt8).toNat=45:=rfl
  have h2:=h.1
  simp only[atoiAll,e45,true_or,or_true,if_true,h1]
  rw[if_neg (by simp),if_neg (by omega)]
  congr 1;omega
 ·rw[if_neg hn]
  have h1:=zhd n.toNat (by have:=h.2;omega)
  have hd:=zha n.toNat
  have h2:=h.2
  cases hl:decDigits n.toNat with
  |nil=>exact absurd hl (cF _)
  |cons c r=>
   rw[hl] at h1 hd
   have hc:=hd c (by simp)
   have e1: ¬c.toNat=43:=by omega
   have e2: ¬c.toNat=45:=by omega
   simp only[atoiAll,e1,e2,or_self,if_false,h1,not_false_eq_true,true_and,false_and]
   rw[if_neg (by omega)]
   congr 1;omega
end Go.Wire
set_option maxRecDepth 10000
namespace Go.Wd
open Go.Lib Go.Wire
def cutC (c:UInt8):Txt→List Txt
 |[]=>[[]]
 |x::t=>if x=c then[]::cutC c t else match cutC c t with
  |[]=>[[x]]
  |w::r=>(x::w)::r
theorem mJ (c:UInt8): ∀t,cutC c t≠[]
 |[]=>by simp[cutC]
 |x::t=>by
  unfold cutC
  split
  ·simp
  ·cases cutC c t<;>simp
theorem cutC_word {c:UInt8}: ∀{w:Txt},c ∉ w→cutC c w=[w]
 |[],_=>rfl
 |x::t,h=>by
  have h1:x≠c:=fun e=>h (by simp[e])
  have h2:c ∉ t:=fun e=>h (by simp[e])
  rw[cutC,if_neg h1,cutC_word h2]
theorem cutC_app {c:UInt8}: ∀{w:Txt} (t:Txt),c ∉ w→cutC c (w++c::t)=w::cutC c t
 |[],t,_=>by rw[List.nil_append,cutC,if_pos rfl]
 |x::w,t,h=>by
  have h1:x≠c:=fun e=>h (by simp[e])
  have h2:c ∉ w:=fun e=>h (by simp[e])
  rw[List.cons_append,cutC,if_neg h1,cutC_app t h2]
def zT (c:UInt8):List Txt→Txt
 |[]=>[]
 |[w]=>w
 |w::v::r=>w++c::zT c (v::r)
theorem cG {c:UInt8}: ∀{l:List Txt},l≠[]→(∀w∈l,c ∉ w)→cutC c (zT c l)=l
 |[],h,_=>absurd rfl h
 |[w],_,h=>cutC_word (h w (by simp))
 |w::v::r,_,h=>by
  rw[zT,cutC_app _ (h w (by simp)),cG (by simp) (fun x hx=>h x (List.mem_cons_of_mem _ hx))]
theorem jR {c x:UInt8}: ∀{l:List Txt},x∈zT c l→x=c∨ ∃w∈l,x∈w
 |[],h=>by simp[zT] at h
 |[w],h=> .inr ⟨w,by simp,h⟩
 |w::v::r,h=>by
  rw[zT,List.mem_append,List.mem_cons] at h
  rcases h with h|h|h
  ·exact .inr ⟨w,by simp,h⟩
  ·exact .inl h
  ·rcases jR h with h|⟨u,hu,h⟩
   ·exact .inl h
   ·exact .inr ⟨u,List.mem_cons_of_mem _ hu,h⟩
def xJ (t:Txt):List Txt:=if t=[] then[] else if (cutC 10 t).getLastD []=[] then(cutC 10 t).dropLast else cutC 10 t
theorem zhf:xJ []=[]:=rfl
theorem zk0 {w:Txt} (h0:w≠[]) (h:(10:UInt8) ∉ w):xJ w=[w]:=by
 unfold xJ
 rw[if_neg h0,cutC_word h]
 simp[h0]
theorem zhg {w:Txt} (t:Txt) (h:(10:UInt8) ∉ w):xJ (w++10::t)=w::xJ t:=by
 unfold xJ
 rw[if_neg (by simp),cutC_app t h]
 cases ht:cutC 10 t with
 |nil=>exact absurd ht (mJ 10 t)
 |cons a r=>
  by_cases e:t=[]
  ·subst e
   rw[cutC] at ht
   injection ht with h1 h2
   subst h1;subst h2
   simp
  ·rw[if_neg e]
   simp only[List.getLastD_cons]
   by_cases hz:r.getLastD a=[]
   ·rw[if_pos hz,if_pos (by simpa using hz),List.dropLast_cons_of_ne_nil (by simp)]
   ·rw[if_neg hz,if_neg (by simpa using hz)]
def yH (L:List (List Txt)):Txt:=(L.map fun ws=>zT 32 ws++[10]).flatten
def cleanL (L:List (List Txt)):Prop:= ∀ws∈L,ws≠[]∧ ∀w∈ws,(32:UInt8) ∉ w∧(10:UInt8) ∉ w
theorem zhh: ∀{L:List (List Txt)},cleanL L→xJ (yH L)=L.map (zT 32)
 |[],_=>rfl
 |ws::L,h=>by
  have h1:(10:UInt8) ∉ zT 32 ws:=fun hm=>by
   rcases jR hm with e|⟨w,hw,e⟩
   ·exact absurd e (by decide)
   ·exact((h ws (by simp)).2 w hw).2 e
  have ih:=zhh (L:=L) fun v hv=>h v (List.mem_cons_of_mem _ hv)
  unfold yH at ih⊢
  rw[List.map_cons,List.flatten_cons,List.append_assoc]
  have e:zT 32 ws++([10]++(L.map fun ws=>zT 32 ws++[10]).flatten)=zT 32 ws++10::(L.map fun ws=>zT 32 ws++[10]).flatten:=rfl
  rw[e,zhg _ h1,ih];rfl
theorem zk1 {L:List (List Txt)} (h:cleanL L):(xJ (yH L)).map (cutC 32)=L:=by
 rw[zhh h,List.map_map]
 conv=>rhs;rw[←List.map_id L]
 exact List.map_congr_left fun ws hw=>cG (h ws hw).1 fun w hm=>((h ws hw).2 w hm).1
def cH (c:UInt8):Bool:=(decide (97≤c.toNat∧c.toNat≤122)||decide (65≤c.toNat∧c.toNat≤90))||(decide (c.toNat=95)||decide (48≤c.toNat∧c.toNat≤57))
def qQ (w:Txt):Prop:=w≠[]∧ ∀c∈w,cH c=true
theorem qR {w:Txt} (h:qQ w):(32:UInt8) ∉ w∧(10:UInt8) ∉ w∧(45:UInt8) ∉ w:=
 ⟨fun e=>absurd (h.2 _ e) (by decide),fun e=>absurd (h.2 _ e) (by decide),fun e=>absurd (h.2 _ e) (by decide)⟩
theorem oS (u:Nat):qQ (decDigits u):=⟨cF u,fun c hc=>by
 have:=zha u c hc
 unfold cH
 simp[this]⟩
def numberP (s:Txt):Int:=match atoiAll s with
 | .ok v=>if v<0∨s.length>13 then-1 else v
 |_=> -1
def dec (n:Int):Txt:=decDigits n.toNat
theorem cI {n:Int} (h:0≤n):itoa n=dec n:=by unfold itoa dec;rw[if_neg (by omega)]
theorem rM {n:Int} (h0:0≤n) (h1:n<10000000000000):numberP (dec n)=n:=by
 unfold numberP
 have hi:=zhe (n:=n) ⟨by omega,by omega⟩
 rw[cI h0] at hi
 rw[hi]
 have hl:=dec_len 12 n.toNat (by omega)
 show(if n<0∨(decDigits n.toNat).length>13 then(-1:Int) else n)=n
 rw[if_neg (by omega)]
structure Ten where
 k:Int
 n:Int
 u:Int
 deriving DecidableEq
structure Bil where
 dr:Int
 de:Int
 pa:Int
 su:Int
 cu:Int
 te:Ten
 da:Int
 ci:Int
 py:Int
 ne:Int
 ra:Int
 fl:Int
 pt:Int
 deriving DecidableEq
structure Nms where
 cu:List Txt
 ci:List Txt
 fi:List Txt
def nm (l:List Txt) (i:Int):Txt:=l.getD i.toNat []
def inR (l:List Txt) (i:Int):Prop:=0≤i∧i<l.length
def bit (k fl:Int):Bool:=decide (fl/k % 2=1)
structure Cal where
 date:Int→Int×Int×Int
 day:Int→Int→Int→Int
structure CalOk (C:Cal):Prop where
 y: ∀d,0≤d→d≤100000→0≤(C.date d).1∧(C.date d).1<10000000000000
 m: ∀d,0≤d→d≤100000→0≤(C.date d).2.1∧(C.date d).2.1<10000000000000
 d: ∀d,0≤d→d≤100000→0≤(C.date d).2.2∧(C.date d).2.2<10000000000000
 back: ∀d,0≤d→d≤100000→C.day (C.date d).1 (C.date d).2.1 (C.date d).2.2=d
def wG (C:Cal) (d:Int):Txt:=zT 45 [dec (C.date d).1,dec (C.date d).2.1,dec (C.date d).2.2]
def sH (C:Cal) (s:Txt):Int:=match cutC 45 s with
 |[a,b,c]=>C.day (numberP a) (numberP b) (numberP c)
 |_=> -1
theorem zhi {C:Cal} (hC:CalOk C) {d:Int} (h0:0≤d) (h1:d≤100000):sH C (wG C d)=d:=by
 unfold sH wG
 rw[cG (by simp) (fun w hw=>by
  simp only[List.mem_cons,List.not_mem_nil,or_false] at hw
  rcases hw with rfl|rfl|rfl<;>exact(qR (oS _)).2.2)]
 show C.day _ _ _=d
 rw[rM (hC.y d h0 h1).1 (hC.y d h0 h1).2,rM (hC.m d h0 h1).1 (hC.m d h0 h1).2,rM (hC.d d h0 h1).1 (hC.d d h0 h1).2,hC.back d h0 h1]
theorem zhj {C:Cal} (d:Int):(32:UInt8) ∉ wG C d∧(10:UInt8) ∉ wG C d:=by
 constructor<;>intro hm<;>rcases jR hm with e|⟨w,hw,e⟩
 ·exact absurd e (by decide)
 ·simp only[List.mem_cons,List.not_mem_nil,or_false] at hw
  rcases hw with rfl|rfl|rfl<;>exact(qR (oS _)).1 e
 ·exact absurd e (by decide)
 ·simp only[List.mem_cons,List.not_mem_nil,or_false] at hw
  rcases hw with rfl|rfl|rfl<;>exact(qR (oS _)).2.1 e
def wP (C:Cal) (t:Ten):List Txt:=
 if t.k=0 then[[112,97,121],[97,116],[115,105,103,104,116]]
 else if t.k=3 then[[112,97,121],[111,110],wG C t.n]
 else if t.k=4 then[[112,97,121],[97,116],[117,115,97,110,99,101]]
 else[[112,97,121],dec t.n,if t.u=1 then[109,111,110,116,104,115] else[100,97,121,115],[97,102,116,101,114],if t.k=2 then[100,97,116,101] else[115,105,103,104,116]]
def vV (pt part:Int):List Int:=((List.range pt.toNat).map Int.ofNat).filter fun i=>decide (i≠part)
def orW:List Txt→List Txt
 |[]=>[]
 |[w]=>[w]
 |w::v::r=>w::[111,114]::orW (v::r)
def vJ (pt part:Int):List Txt:=orW ((vV pt part).map fun i=>dec (i+1))
def rows (C:Cal) (N:Nms) (b:Bil) (p:Int):List (List Txt):=
 [[if bit 1 b.fl=true then[98,105,108,108] else[112,97,112,101,114],dec (p+1),[111,102],dec b.pt],
  [[100,114,97,119,110],[105,110],nm N.ci b.ci,[111,110],wG C b.da],
  wP C b.te,
  if b.pa= -1 then[[116,111],[98,101,97,114,101,114]] else if bit 4 b.fl=true then[[116,111],nm N.fi b.pa,[110,111,116],[116,111],[111,114,100,101,114]] else[[116,111],nm N.fi b.pa,[111,114],[111,114,100,101,114]],
  if b.ra=0 then[dec b.su,nm N.cu b.cu] else[dec b.su,nm N.cu b.cu,[119,105,116,104],[105,110,116,101,114,101,115,116],[97,116],dec b.ra,[112,101,114],[109,105,108,108,101]],
  [[116,111],[98,101],[112,97,105,100],[98,121],nm N.fi b.de,[105,110],nm N.ci b.py]]
 ++((if b.pt>1 then[[117,110,108,101,115,115]::[112,97,114,116]::(vJ b.pt p++[[119,97,115],[112,97,105,100]])] else[])
 ++((if b.ne= -1 then[] else[[[105,110],[110,101,101,100],[97,115,107],nm N.fi b.ne]])
 ++((if bit 2 b.fl=true then[[[119,105,116,104,111,117,116],[112,114,111,116,101,115,116]]] else[])++[[[115,105,103,110,101,100],nm N.fi b.dr]])))
def wd (l:List Txt) (i:Nat):Txt:=l.getD i []
def fstI (l:List Txt) (s:Txt):Int:=match l.findIdx? (fun x=>decide (x=s)) with
 |some i=>i
 |none=> -1
def wQ:List Txt→Txt→Int→Int→Int
 |[],_,_,r=>r
 |x::l,s,i,r=>wQ l s (i+1) (if x=s then i else r)
def whenP (C:Cal) (l:List Txt):Ten:=
 if wd l 1=[111,110] then⟨3,sH C (wd l 2),0⟩
 else if wd l 2=[117,115,97,110,99,101] then⟨4,0,0⟩
 else if wd l 3=[97,102,116,101,114] then⟨if wd l 4=[100,97,116,101] then 2 else 1,numberP (wd l 1),if wd l 2=[109,111,110,116,104,115] then 1 else 0⟩
 else⟨0,0,0⟩
structure Lst where
 ne:Int
 np:Bool
 dr:Int
def restP (N:Nms):List (List Txt)→Lst→Lst
 |[],s=>s
 |l::r,s=>restP N r (if wd l 0=[105,110] then⟨fstI N.fi (wd l 3),s.np,s.dr⟩ else if wd l 0=[119,105,116,104,111,117,116] then⟨s.ne,true,s.dr⟩ else if wd l 0=[115,105,103,110,101,100] then⟨s.ne,s.np,fstI N.fi (wd l 1)⟩ else s)
def xK (C:Cal) (N:Nms) (L:List (List Txt)):Bil×Int:=
 let l0:=L.getD 0 []
 let l1:=L.getD 1 []
 let l2:=L.getD 2 []
 let l3:=L.getD 3 []
 let l4:=L.getD 4 []
 let l5:=L.getD 5 []
 let s:=restP N (L.drop 6) ⟨-1,false,0⟩
 let word:=decide (wd l0 0=[98,105,108,108])
 let three:=decide (l3.length>2)
 let no:=three&&decide (wd l3 2=[110,111,116])
 (⟨s.dr,fstI N.fi (wd l5 4),if three=true then fstI N.fi (wd l3 1) else-1,numberP (wd l4 0),wQ N.cu (wd l4 1) 0 (-1),whenP C l2,sH C (wd l1 4),fstI N.ci (wd l1 2),fstI N.ci (wd l5 6),s.ne,
   max 0 (numberP (wd l4 5)),(if word=true then 1 else 0)+(if s.np=true then 2 else 0)+(if no=true then 4 else 0),numberP (wd l0 3)⟩,numberP (wd l0 1)-1)
structure NmsOk (N:Nms):Prop where
 cu:(∀w∈N.cu,qQ w)∧N.cu.Nodup
 ci:(∀w∈N.ci,qQ w)∧N.ci.Nodup
 fi:(∀w∈N.fi,qQ w)∧N.fi.Nodup
def wB (te:Ten) (da:Int):Prop:=
 ((te.k=0∨te.k=4)∧te.n=0∧te.u=0)∨((te.k=1∨te.k=2)∧1≤te.n∧te.n≤400∧(te.u=0∨te.u=1))∨(te.k=3∧da≤te.n∧te.n≤100000∧te.u=0)
structure BilOk (N:Nms) (b:Bil):Prop where
 dr:inR N.fi b.dr
 de:inR N.fi b.de
 pa:b.pa= -1∨inR N.fi b.pa
 ne:b.ne= -1∨inR N.fi b.ne
 cu:inR N.cu b.cu
 ci:inR N.ci b.ci
 py:inR N.ci b.py
 su:1≤b.su∧b.su≤1099511627776
 da:0≤b.da∧b.da≤100000
 ra:0≤b.ra∧b.ra≤1000
 pt:1≤b.pt∧b.pt≤4
 fl:0≤b.fl∧b.fl≤7
 no: ¬(bit 4 b.fl=true∧b.pa= -1)
 te:wB b.te b.da
theorem zhk {l:List Txt} {i:Int} (h:inR l i):nm l i∈l:=by
 unfold nm
 have h1:i.toNat<l.length:=by have:=h.1;have:=h.2;omega
 simp[List.getD,h1]
theorem oT {l:List Txt} (hd:l.Nodup) {i:Int} (h:inR l i):fstI l (nm l i)=i:=by
 have h1:i.toNat<l.length:=by have:=h.1;have:=h.2;omega
 have e:nm l i=l[i.toNat]:=by simp[nm,List.getD,h1]
 have hf:l.findIdx? (fun x=>decide (x=nm l i))=some i.toNat:=by
  rw[List.findIdx?_eq_some_iff_getElem]
  refine⟨h1,by simp[e],fun j hj=>?_⟩
  simp only[decide_eq_true_eq]
  intro hx
  rw[e] at hx
  exact absurd hx (List.pairwise_iff_getElem.1 hd j i.toNat (by omega) h1 hj)
 unfold fstI
 rw[hf]
 show((i.toNat:Nat):Int)=i
 have:=h.1
 omega
theorem zhl: ∀{l:List Txt} {s:Txt} (i r:Int),s ∉ l→wQ l s i r=r
 |[],_,_,_,_=>rfl
 |x::l,s,i,r,h=>by
  rw[wQ,if_neg (fun e=>h (by simp[e])),zhl _ _ (fun e=>h (List.mem_cons_of_mem _ e))]
theorem zhm: ∀{l:List Txt} (k:Nat) (h:k<l.length) (i r:Int),l.Nodup→wQ l l[k] i r=i+k
 |x::l,0,h,i,r,hd=>by
  rw[wQ,List.getElem_cons_zero,if_pos rfl,zhl _ _ (List.nodup_cons.1 hd).1];simp
 |x::l,k+1,h,i,r,hd=>by
  have h1:k<l.length:=by simpa using h
  rw[wQ,List.getElem_cons_succ,if_neg (fun e=>(List.nodup_cons.1 hd).1 (by rw[e];exact List.getElem_mem h1)),zhm k h1 _ _ (List.nodup_cons.1 hd).2]
  push_cast;omega
theorem zk2 {l:List Txt} (hd:l.Nodup) {i:Int} (h:inR l i):wQ l (nm l i) 0 (-1)=i:=by
 have h1:i.toNat<l.length:=by have:=h.1;have:=h.2;omega
 have e:nm l i=l[i.toNat]:=by simp[nm,List.getD,h1]
 rw[e,zhm _ h1 _ _ hd]
 have:=h.1
 omega
theorem fstI_no {l:List Txt} {s:Txt} (h:s ∉ l):fstI l s= -1:=by
 unfold fstI
 have:l.findIdx? (fun x=>decide (x=s))=none:=by
  rw[List.findIdx?_eq_none_iff]
  intro x hx
  simp only[decide_eq_false_iff_not]
  rintro rfl
  exact h hx
 rw[this]
theorem zk3 {n:Int} {w:Txt} (h0:0≤n) (hw: ∀v,atoiAll w≠.ok v) (h:n≤9223372036854775807):dec n≠w:=fun e=>by
 have hi:=zhe (n:=n) ⟨by omega,by omega⟩
 rw[cI h0,e] at hi
 exact hw _ hi
end Go.Wd
set_option maxRecDepth 100000
set_option maxHeartbeats 4000000
namespace Go.Abs
open Go.Proofs Go.RowKit
abbrev Txt:=List UInt8
structure Cty where
 name:Txt
 ord:Int
 cur:Int
 rest:List Int
 feasts:List Int
 shut:List Int
structure Frm where
 name:Txt
 ci:Int
 gr:Int
structure T3 where
 a:Int
 b:Int
 c:Int
structure T5 where
 a:Int
 b:Int
 c:Int
 d:Int
 e:Int
structure Rlm where
 cur:List Txt
 cities:List Cty
 groups:List Int
 firms:List Frm
 orders:List Order
 usances:List T3
 rates:List T5
 halts:List T3
def zE (l:List Txt):List (List C):=l.map fun s=>[.str s]
def xL (c:Cty):List C:=[.str c.name,.int .i64 c.ord,.int .i64 c.cur,zB 1 (zN c.rest),zB 1 (zN c.feasts),zB 1 (zN c.shut)]
def tQ (c:Frm):List C:=[.str c.name,.int .i64 c.ci,.int .i64 c.gr]
def tU (c:T3):List C:=[.int .i64 c.a,.int .i64 c.b,.int .i64 c.c]
def oU (c:T5):List C:=[.int .i64 c.a,.int .i64 c.b,.int .i64 c.c,.int .i64 c.d,.int .i64 c.e]
def xW (l:List Cty):List (List C):=l.map xL
def xX (l:List Frm):List (List C):=l.map tQ
def wK (l:List Order):List (List C):=l.map wF
def t3s (l:List T3):List (List C):=l.map tU
def t5s (l:List T5):List (List C):=l.map oU
def zS (r:Rlm):List C:=[zB 1 (zE r.cur),zB 6 (xW r.cities),zB 1 (zN r.groups),zB 3 (xX r.firms),zB 4 (wK r.orders),zB 3 (t3s r.usances),zB 5 (t5s r.rates),zB 3 (t3s r.halts)]
theorem zK (l:List Txt):(zE l).length=l.length:=by simp[zE]
theorem yE (l:List Cty):(xW l).length=l.length:=by simp[xW]
theorem yW (l:List Frm):(xX l).length=l.length:=by simp[xX]
theorem xH (l:List Order):(wK l).length=l.length:=by simp[wK]
theorem xB (l:List T3):(t3s l).length=l.length:=by simp[t3s]
theorem vW (l:List T5):(t5s l).length=l.length:=by simp[t5s]
theorem aY {l:List Txt} {i:Nat} (h:i<l.length):(zE l).getD i []=[.str l[i]]:=by simp[zE,h]
theorem mK {l:List Cty} {i:Nat} (h:i<l.length):(xW l).getD i []=xL l[i]:=by simp[xW,h]
theorem cJ {l:List Frm} {i:Nat} (h:i<l.length):(xX l).getD i []=tQ l[i]:=by simp[xX,h]
theorem jS {l:List Order} {i:Nat} (h:i<l.length):(wK l).getD i []=wF l[i]:=by simp[wK,h]
theorem zhn {l:List T3} {i:Nat} (h:i<l.length):(t3s l).getD i []=tU l[i]:=by simp[t3s,h]
theorem zk4 {l:List T5} {i:Nat} (h:i<l.length):(t5s l).getD i []=oU l[i]:=by simp[t5s,h]
theorem yT (l:List Txt):C.normRows (zE l)=zE l:=vN (fun _=>rfl) l
theorem cK (l:List Int):(zB 1 (zN l)).norm=zB 1 (zN l):=tL (fun _=>rfl) 1 l
theorem zk5 (l:List Txt):(zB 1 (zE l)).norm=zB 1 (zE l):=tL (fun _=>rfl) 1 l
theorem rN (c:Cty):C.normRow (xL c)=xL c:=by simp[xL,C.normRow,C.norm,cK]
theorem zho (c:Frm):C.normRow (tQ c)=tQ c:=rfl
theorem cL (c:T3):C.normRow (tU c)=tU c:=rfl
theorem zhp (c:T5):C.normRow (oU c)=oU c:=rfl
theorem mL (l:List Cty):C.normRows (xW l)=xW l:=vN rN l
theorem mM (l:List Frm):C.normRows (xX l)=xX l:=vN zho l
theorem cM (l:List Order):C.normRows (wK l)=wK l:=vN oR l
theorem cN (l:List T3):C.normRows (t3s l)=t3s l:=vN cL l
theorem cO (l:List T5):C.normRows (t5s l)=t5s l:=vN zhp l
theorem xY (r:Rlm):C.normRow (zS r)=zS r:=by
 simp only[zS,C.normRow,cK,zk5]
 rw[show(zB 6 (xW r.cities)).norm=zB 6 (xW r.cities) from tL rN 6 _,show(zB 3 (xX r.firms)).norm=zB 3 (xX r.firms) from tL zho 3 _,
  show(zB 4 (wK r.orders)).norm=zB 4 (wK r.orders) from tL oR 4 _,show(zB 3 (t3s r.usances)).norm=zB 3 (t3s r.usances) from tL cL 3 _,
  show(zB 5 (t5s r.rates)).norm=zB 5 (t5s r.rates) from tL zhp 5 _,show(zB 3 (t3s r.halts)).norm=zB 3 (t3s r.halts) from tL cL 3 _]
theorem qS {l:List Int} {i:Nat} (h:i<l.length):(zN l).getD i []=[.int .i64 (l.getD i 0)]:=by simp[zN,h,List.getD]
theorem c79 (i n:Int):Spec Tryz.prog 79 [.int .i64 i,.int .i64 n] (fun r=>r=.bool (decide (0≤i∧i<n))):=by
 refine Spec.of_awlS hf79 okf79 (by simp) fun S hS=>?_
 by_cases h1:i≥0<;>by_cases h2:i<n<;>simp only[h1,h2,Qs,if_true,List.nodup_nil,Nat.reduceAdd,Nat.reduceBEq,uu f79.eq_1,vv f79r1.eq_1,uu f79b2.eq_1,vv f79r3.eq_1,uu f79b4.eq_1]<;>(have h1':0≤i ↔ i≥0:=Iff.rfl)<;>simpa [h1,h2,h1'] using hS
theorem c38 (i n:Int):Spec Tryz.prog 38 [.int .i64 i,.int .i64 n] (fun r=>r=.bool (decide (0≤i∧i<n))):=by
 refine Spec.of_awlS hf38 okf38 (by simp) fun S hS=>?_
 by_cases h1:i≥0<;>by_cases h2:i<n<;>simp only[h1,h2,Qs,if_true,List.nodup_nil,Nat.reduceAdd,Nat.reduceBEq,uu f38.eq_1,vv f38r1.eq_1,uu f38b2.eq_1,vv f38r3.eq_1,uu f38b4.eq_1]<;>(have h1':0≤i ↔ i≥0:=Iff.rfl)<;>simpa [h1,h2,h1'] using hS
theorem mO (i a b:Int):Spec Tryz.prog 112 [.int .i64 i,.int .i64 a,.int .i64 b] (fun r=>r=.bool (decide (a≤i∧i≤b))):=by
 refine Spec.of_awlS hf112 okf112 (by simp) fun S hS=>?_
 by_cases h1:a≤i<;>by_cases h2:i≤b<;>simp only[h1,h2,Qs,if_true,List.nodup_nil,Nat.reduceAdd,Nat.reduceBEq,uu f112.eq_1,vv f112r1.eq_1,uu f112b2.eq_1,vv f112r3.eq_1,uu f112b4.eq_1]<;>simpa [h1,h2] using hS
theorem zhq (i:Int):Spec Tryz.prog 117 [.int .i64 i] (fun r=>r=.bool (decide (0≤i∧i≤100000))):=by
 refine Spec.of_awlS hf117 okf117 (by simp) fun S hS=>?_
 by_cases h1:0≤i<;>by_cases h2:i≤100000<;>simp only[h1,h2,Qs,if_true,List.nodup_nil,Nat.reduceBEq,uu f117.eq_1,vv f117r1.eq_1,uu f117b2.eq_1,vv f117r3.eq_1,uu f117b4.eq_1]<;>simpa [h1,h2] using hS
end Go.Abs
