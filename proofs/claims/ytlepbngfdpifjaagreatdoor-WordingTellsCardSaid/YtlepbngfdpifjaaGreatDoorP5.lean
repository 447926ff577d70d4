/- A part of the proof; the last text states what is proved. -/
import Derived.Test.YtlepbngfdpifjaaGreatDoorP4
import Derived.IntWalk
import Derived.RangeFuncFrom
import Derived.Test.YtlepbngfdpifjaaGreatDoorProg
import Derived.Shelf.Small.Strs
import Derived.Lib.AtoiAll
import Derived.Lib.ItoaNum
set_option linter.unusedVariables false
set_option linter.unusedSimpArgs false
set_option maxRecDepth 100000
namespace Go.Abs
open Go.Proofs
def f25r1o0:AI:=.mk none (.load 136 15 true (.t 4))
def f25r1o1:AI:=.mk none (.mov 137 (.t 1))
def f25r1o2:AI:=.mk none (.iaddr 138 1 (.t 137) (.v (.k (.c (.int .i64 0)))))
def f25r1o3:AI:=.mk none (.load 139 1 false (.t 138))
def f25r1o4:AI:=.mk none (.call (some 140) 68 [(.t 139),(.v (.k (.c (.int .i64 1))))])
def f25r1o5:AI:=.mk none (.call (some 141) 71 [(.t 140)])
def f25r1o6:AI:=.mk none (.bin 142 .sub (.t 141) (.v (.k (.c (.int .i64 1)))))
def f25r1o7:AI:=.mk none (.store 15 (.t 4) (.t 136))
def f25r1o8:AI:=.mk none (.mov 5 (.t 142))
def f25r1:LA:=[f25r1o0,f25r1o1,f25r1o2,f25r1o3,f25r1o4,f25r1o5,f25r1o6,f25r1o7,f25r1o8]
theorem zkM:qJ f25r1 [[],[],[1],[2],[3],[4,4],[5],[0,5,0],[6,7,0,1,2,3,4,5,6,7]]=(.one f25r1o0 (.one f25r1o1 (.one f25r1o2 (.one f25r1o3 (.one f25r1o4 (.one f25r1o5 (.alt (.one f25r1o6 (.one f25r1o7 (.one f25r1o8 .done))) (.alt (.one f25r1o7 (.one f25r1o6 (.one f25r1o8 .done))) .top)))))))):=by kernel_rfl
def f25b2:AQ:=.seq (.tree f25r1 [[],[],[1],[2],[3],[4,4],[5],[0,5,0],[6,7,0,1,2,3,4,5,6,7]]) (.keep [4,5] [4] .ret)
def f25r3:LA:=[η (.bin 135 .add (.t 109) (φ 1)),θ 109 135]
def f25r4:LA:=[ω 117 8 2,θ 118 9,η (.call (some 119) 68 [(.t 118),(φ 3)]),Ξ 120 72 117 119,Γ 121 11 4,Φ 1 121 120]
def f25r5:LA:=[Γ 124 13 4,ψ 125 1 124,η (.bin 126 .or (.t 125) (φ 2)),Γ 127 13 4,Φ 1 127 126]
def f25r6:LA:=[ω 130 8 2,θ 131 9,η (.call (some 132) 68 [(.t 131),(φ 1)]),Ξ 133 72 130 132,Γ 134 0 4,Φ 1 134 133]
def f25b7:AQ:=.cond (.t 128) (.draw f25r6 [[],[],[1],[0,2,2],[0,1,2,3],[4,3,3,0,1,2,3]]) .skip
def f25r8:LA:=[η (.bin 129 .eql (.t 114) (.v (.k (.c (.str [115,105,103,110,101,100]))))),θ 128 129]
def f25b9:AQ:=ζ f25r8 f25b7
def f25b10:AQ:=.cond (.t 122) (.region f25r5) f25b9
def f25r11:LA:=[η (.bin 123 .eql (.t 114) (.v (.k (.c (.str [119,105,116,104,111,117,116]))))),θ 122 123]
def f25b12:AQ:=ζ f25r11 f25b10
def f25b13:AQ:=.cond (.t 115) (.draw f25r4 [[],[],[1],[0,2,2],[0,1,2,3],[4,3,3,0,1,2,3]]) f25b12
def f25r14:LA:=[η (.bin 116 .eql (.t 114) (.v (.k (.c (.str [105,110]))))),θ 115 116]
def f25b15:AQ:=ζ f25r14 f25b13
def f25b16:AQ:=.block 4 f25b15
def f25r17:LA:=[θ 113 9,η (.call (some 114) 68 [(.t 113),(φ 0)])]
def f25b18:AQ:=ζ f25r17 f25b16
def f25r19:LA:=[Ψ 111 1 107 109,ψ 112 1 111,θ 9 112]
def f25b20:AQ:=ζ f25r19 f25b18
def f25b21:AQ:=.block 3 f25b20
def f25b22:AQ:=.seq f25b21 (.region f25r3)
def f25b23:AQ:=.cond (.t 110) .skip (.exit 2)
def f25b24:AQ:=.seq f25b23 f25b22
def f25r25:LA:=[yM 110 .lss 109 108]
def f25b26:AQ:=ζ f25r25 f25b24
def f25l27:AQ:=.loop [1,2,4,107,108,109] [2,4] f25b26
def f25b28:AQ:=.block 2 f25l27
def f25r29:LA:=[θ 106 1,η (.slice 107 1 (.t 106) (some (φ 6)) none),Ω 108 107,η (.mov 109 (φ 0))]
def f25b30:AQ:=ζ f25r29 f25b28
def f25b31:AQ:=.seq f25b30 f25b2
def f25r32:LA:=[ω 92 8 2,θ 93 1,η (.iaddr 94 1 (.t 93) (φ 5)),ψ 95 1 94,η (.call (some 96) 68 [(.t 95),(φ 4)]),Ξ 97 72 92 96,ω 98 8 2,θ 99 1,η (.iaddr 100 1 (.t 99) (φ 5)),ψ 101 1 100,η (.call (some 102) 68 [(.t 101),(φ 6)]),Ξ 103 67 98 102,Γ 104 1 4,Φ 1 104 97,Γ 105 10 4,Φ 1 105 103]
def f25b33:AQ:=.seq (.draw f25r32 [[],[],[1],[2],[3],[0,4,4],[],[],[7],[8],[9,5],[6,10,10],[0,1,2,3,4,5],[12,5,11,0,1,2,3,4,5],[0,1,2,3,4,5,6,7,8,9,10,11,12,13],[14,11,13,0,1,2,3,4,5,6,7,8,9,10,11,12,13]]) f25b31
def f25r34:LA:=[θ 85 1,η (.iaddr 86 1 (.t 85) (φ 4)),ψ 87 1 86,η (.call (some 88) 68 [(.t 87),(φ 5)]),Θ 89 71 88,η (.minmax 90 true (φ 0) [(.t 89)]),Γ 91 12 4,Φ 1 91 90]
def f25b35:AQ:=ζ f25r34 f25b33
def f25r36:LA:=[η (.bin 84 .add (.t 71) (φ 1)),θ 71 84]
def f25r37:LA:=[θ 82 6,Γ 83 4 4,Φ 1 83 82]
def f25b38:AQ:=.cond (.t 81) (.region f25r37) .skip
def f25r39:LA:=[θ 76 7,θ 77 1,η (.iaddr 78 1 (.t 77) (φ 4)),ψ 79 1 78,η (.call (some 80) 68 [(.t 79),(φ 1)]),yM 81 .eql 76 80]
def f25b40:AQ:=ζ f25r39 f25b38
def f25r41:LA:=[θ 73 71,Ψ 74 1 69 71,ψ 75 1 74,θ 6 73,θ 7 75]
def f25b42:AQ:=ζ f25r41 f25b40
def f25b43:AQ:=.block 1 f25b42
def f25b44:AQ:=.seq f25b43 (.region f25r36)
def f25b45:AQ:=.cond (.t 72) .skip (.exit 0)
def f25b46:AQ:=.seq f25b45 f25b44
def f25r47:LA:=[yM 72 .lss 71 70]
def f25b48:AQ:=ζ f25r47 f25b46
def f25l49:AQ:=.loop [1,2,4,69,70,71] [2,4] f25b48
def f25b50:AQ:=.block 0 f25l49
def f25r51:LA:=[Γ 68 0 2,ψ 69 1 68,Ω 70 69,η (.mov 71 (φ 0))]
def f25b52:AQ:=ζ f25r51 f25b50
def f25b53:AQ:=.seq f25b52 f25b35
def f25r54:LA:=[θ 62 1,η (.iaddr 63 1 (.t 62) (φ 4)),ψ 64 1 63,η (.call (some 65) 68 [(.t 64),(φ 0)]),Θ 66 71 65,Γ 67 3 4,Φ 1 67 66]
def f25b55:AQ:=ζ f25r54 f25b53
def f25r56:LA:=[Γ 58 13 4,ψ 59 1 58,η (.bin 60 .or (.t 59) (φ 4)),Γ 61 13 4,Φ 1 61 60]
def f25b57:AQ:=.cond (.t 57) (.region f25r56) .skip
def f25r58:LA:=[θ 53 1,η (.iaddr 54 1 (.t 53) (φ 3)),ψ 55 1 54,η (.call (some 56) 68 [(.t 55),(φ 2)]),η (.bin 57 .eql (.t 56) (.v (.k (.c (.str [110,111,116])))))]
def f25b59:AQ:=ζ f25r58 f25b57
def f25r60:LA:=[ω 46 8 2,θ 47 1,η (.iaddr 48 1 (.t 47) (φ 3)),ψ 49 1 48,η (.call (some 50) 68 [(.t 49),(φ 1)]),Ξ 51 72 46 50,Γ 52 2 4,Φ 1 52 51]
def f25b61:AQ:=.seq (.draw f25r60 [[],[],[1],[2],[3],[0,4,4],[0,1,2,3,4,5],[6,5,5,0,1,2,3,4,5]]) f25b59
def f25b62:AQ:=.cond (.t 45) f25b61 .skip
def f25r63:LA:=[θ 41 1,η (.iaddr 42 1 (.t 41) (φ 3)),ψ 43 1 42,Ω 44 43,η (.bin 45 .gtr (.t 44) (φ 2))]
def f25b64:AQ:=ζ f25r63 f25b62
def f25b65:AQ:=.seq f25b64 (.keep [1,2,4] [2,4] f25b55)
def f25r66:LA:=[θ 35 1,η (.iaddr 36 1 (.t 35) (φ 0)),ψ 37 1 36,η (.call (some 38) 68 [(.t 37),(φ 3)]),Θ 39 71 38,Γ 40 14 4,Φ 1 40 39]
def f25b67:AQ:=ζ f25r66 f25b65
def f25r68:LA:=[Γ 31 13 4,ψ 32 1 31,η (.bin 33 .or (.t 32) (φ 1)),Γ 34 13 4,Φ 1 34 33]
def f25b69:AQ:=.cond (.t 30) (.region f25r68) .skip
def f25r70:LA:=[θ 26 1,η (.iaddr 27 1 (.t 26) (φ 0)),ψ 28 1 27,η (.call (some 29) 68 [(.t 28),(φ 0)]),η (.bin 30 .eql (.t 29) (.v (.k (.c (.str [98,105,108,108])))))]
def f25b71:AQ:=ζ f25r70 f25b69
def f25b72:AQ:=.seq f25b71 (.keep [1,2,4] [2,4] f25b67)
def f25r73:LA:=[ω 10 8 2,θ 11 1,η (.iaddr 12 1 (.t 11) (φ 1)),ψ 13 1 12,η (.call (some 14) 68 [(.t 13),(φ 2)]),Ξ 15 67 10 14,θ 16 1,η (.iaddr 17 1 (.t 16) (φ 1)),ψ 18 1 17,η (.call (some 19) 68 [(.t 18),(φ 4)]),Θ 20 69 19,θ 21 1,η (.iaddr 22 1 (.t 21) (φ 2)),ψ 23 1 22,Θ 24 70 23,(η (.build 25 [(.int .i64 0),(.int .i64 0),(.int .i64 0),(.int .i64 0),(.int .i64 0),(.int .i64 0),(.int .i64 0),(.int .i64 0),(.int .i64 0),(.int .i64 0),(.int .i64 0),(.int .i64 0),(.int .i64 0),(.int .i64 0),(.int .i64 0)] [(2,(1,(.v (.k (.c (.int .i64 (-1))))))),(11,(1,(.v (.k (.c (.int .i64 (-1))))))),(4,(1,(.v (.k (.c (.int .i64 (-1))))))),(9,(1,(.t 15))),(8,(1,(.t 20))),(5,(3,(.t 24)))])),Φ 15 4 25]
def f25b74:AQ:=.seq (.draw f25r73 [[],[],[1],[2],[3],[0,4,4],[],[6],[7],[8,5],[9,9],[],[11],[12],[13,10],[5,10,14],[15,14,0,1,2,3,4,5,6,7,8,9,10,11,12,13,14,15]]) f25b72
def f25r75:LA:=[zX 2 31 0,η (.alloc 4 35 [(.int .i64 0),(.int .i64 0),(.int .i64 0),(.int .i64 0),(.int .i64 0),(.int .i64 0),(.int .i64 0),(.int .i64 0),(.int .i64 0),(.int .i64 0),(.int .i64 0),(.int .i64 0),(.int .i64 0),(.int .i64 0),(.int .i64 0)]),η (.mov 5 (φ 0))]
def f25b76:AQ:=ζ f25r75 (.frz 2 f25b74)
def f25:AQ:=f25b76
theorem hf25:zH Tryz.prog 25=some ⟨143,f25.erase,[(RX.cell 4 15 true),(RX.t 5)]⟩:=by kernel_rfl
theorem okf25:f25.ok=true:=by kernel_rfl
def R25:=PLift.up (ξ (vv f25r54.eq_1)<|ξ (uu f25b50.eq_1)<|ξ (vv f25r51.eq_1)<|ξ (uu f25b52.eq_1)<|ξ (uu f25b53.eq_1)<|ξ (vv f25r36.eq_1)<|ξ (vv f25r39.eq_1)<|ξ (uu f25b40.eq_1)<|ξ (vv f25r41.eq_1)<|ξ (uu f25b42.eq_1)<|ξ (uu f25b43.eq_1)<|ξ (uu f25b44.eq_1)<|ξ (uu f25b45.eq_1)<|ξ (uu f25b46.eq_1)<|ξ (vv f25r47.eq_1)<|ξ (uu f25b48.eq_1)<|ξ (vv f25r37.eq_1)<|ξ (uu f25b38.eq_1)<|ξ (vv f25r34.eq_1)<|ξ (uu f25b35.eq_1)<|ξ (vv f25r32.eq_1)<|ξ (uu f25b33.eq_1)<|ξ (uu f25b28.eq_1)<|ξ (vv f25r29.eq_1)<|ξ (uu f25b30.eq_1)<|ξ (uu f25b31.eq_1)<|ξ (vv f25r3.eq_1)<|ξ (vv f25r17.eq_1)<|ξ (uu f25b18.eq_1)<|ξ (vv f25r19.eq_1)<|ξ (uu f25b20.eq_1)<|ξ (uu f25b21.eq_1)<|ξ (uu f25b22.eq_1)<|ξ (uu f25b23.eq_1)<|ξ (uu f25b24.eq_1)<|ξ (vv f25r25.eq_1)<|ξ (uu f25b26.eq_1)<|ξ (vv f25r4.eq_1)<|ξ (vv f25r5.eq_1)<|ξ (vv f25r6.eq_1)<|ξ (uu f25b7.eq_1)<|ξ (vv f25r8.eq_1)<|ξ (uu f25b9.eq_1)<|ξ (uu f25b10.eq_1)<|ξ (vv f25r11.eq_1)<|ξ (uu f25b12.eq_1)<|ξ (uu f25b13.eq_1)<|ξ (vv f25r14.eq_1)<|ξ (uu f25b15.eq_1)<|ξ (uu f25b16.eq_1)<|ξ (uu f25b2.eq_1)<|ξ (vv f25r66.eq_1)<|ξ (vv f25r60.eq_1)<|ξ (uu f25b61.eq_1)<|ξ (uu f25b62.eq_1)<|ξ (vv f25r63.eq_1)<|ξ (uu f25b64.eq_1)<|ξ (uu f25b65.eq_1)<|ξ (vv f25r58.eq_1)<|ξ (uu f25b59.eq_1)<|ξ (vv f25r56.eq_1)<|ξ (uu f25b57.eq_1)<|ξ (uu f25.eq_1)<|ξ (vv f25r73.eq_1)<|ξ (uu f25b74.eq_1)<|ξ (vv f25r75.eq_1)<|ξ (uu f25b76.eq_1)<|ξ (vv f25r70.eq_1)<|ξ (uu f25b71.eq_1)<|ξ (uu f25b72.eq_1)<|ξ (vv f25r68.eq_1)<|uu f25b69.eq_1)
theorem Q25:type_of% R25.1:=R25.1
def f26r1:LA:=[θ 20 0,θ 21 1,η (.lenS 22 (.t 21)),η (.slstr 23 (.t 20) (some (.t 22)) none),θ 4 23,η (.mov 5 (χ true))]
def f26b2:AQ:=ζ f26r1 .ret
def f26r3:LA:=[θ 19 0,θ 4 19,η (.mov 5 (χ false))]
def f26b4:AQ:=ζ f26r3 .ret
def f26b5:AQ:=.cond (.t 18) f26b4 .skip
def f26r6:LA:=[θ 6 0,η (.lenS 7 (.t 6)),θ 8 1,η (.lenS 9 (.t 8)),yM 10 .lss 7 9,θ 11 10,iR 11 (.mov 12 (.t 0)),iR 11 (.mov 13 (.t 1)),iR 11 (.lenS 14 (.t 13)),iR 11 (.slstr 15 (.t 12) none (some (.t 14))),iR 11 (.mov 16 (.t 1)),iR 11 (.bin 17 .neq (.t 15) (.t 16)),η (.pick 18 (.t 11) (χ true) (.t 17))]
def f26b7:AQ:=ζ f26r6 f26b5
def f26b8:AQ:=.seq f26b7 f26b2
def f26r9:LA:=[η (.mov 4 (.v (.k (.c (.str []))))),η (.mov 5 (χ false))]
def f26b10:AQ:=ζ f26r9 f26b8
def f26:AQ:=f26b10
theorem hf26:zH Tryz.prog 26=some ⟨24,f26.erase,[(RX.t 4),(RX.t 5)]⟩:=by kernel_rfl
theorem okf26:f26.ok=true:=by kernel_rfl
def R26:=PLift.up (ξ (uu f26.eq_1)<|ξ (vv f26r3.eq_1)<|ξ (uu f26b4.eq_1)<|ξ (uu f26b5.eq_1)<|ξ (vv f26r6.eq_1)<|ξ (uu f26b7.eq_1)<|ξ (uu f26b8.eq_1)<|ξ (vv f26r9.eq_1)<|ξ (uu f26b10.eq_1)<|ξ (vv f26r1.eq_1)<|uu f26b2.eq_1)
theorem Q26:type_of% R26.1:=R26.1
def f27r1:LA:=[θ 39 4,θ 40 0,θ 41 5,η (.slstr 42 (.t 40) (some (.t 41)) none),θ 2 39,θ 3 42]
def f27b2:AQ:=.seq (.draw f27r1 [[],[],[],[1,2],[0,0],[3,4,0,1,2,3,4]]) .ret
def f27r3:LA:=[θ 38 0,η (.mov 2 (.v (.k (.c (.int .i64 (-1)))))),θ 3 38]
def f27b4:AQ:=ζ f27r3 .ret
def f27b5:AQ:=.cond (.t 37) f27b4 .skip
def f27r6:LA:=[θ 36 5,η (.bin 37 .eql (.t 36) (φ 0))]
def f27b7:AQ:=ζ f27r6 f27b5
def f27b8:AQ:=.seq f27b7 f27b2
def f27r9:LA:=[θ 34 5,η (.bin 35 .add (.t 34) (φ 1)),θ 5 35]
def f27r10:LA:=[θ 26 4,η (.bin 27 .mul (φ 10) (.t 26)),θ 28 0,θ 29 5,η (.sidx 30 (.t 28) (.t 29)),η (.conv 31 .i64 (.t 30)),yM 32 .add 27 31,η (.bin 33 .sub (.t 32) (φ 48)),θ 4 33]
def f27b11:AQ:=ζ f27r10 (.region f27r9)
def f27b12:AQ:=.block 1 f27b11
def f27b13:AQ:=.cond (.t 25) .skip (.exit 0)
def f27r14:LA:=[θ 6 5,θ 7 0,η (.lenS 8 (.t 7)),yM 9 .lss 6 8,θ 10 9,qA 10 (.mov 11 (.t 5)),qA 10 (.bin 12 .lss (.t 11) (φ 13)),η (.pick 13 (.t 10) (.t 12) (χ false)),θ 14 13,qA 14 (.mov 15 (.t 0)),qA 14 (.mov 16 (.t 5)),qA 14 (.sidx 17 (.t 15) (.t 16)),qA 14 (.bin 18 .geq (.t 17) (.v (.k (.c (.int .u8 48))))),η (.pick 19 (.t 14) (.t 18) (χ false)),θ 20 19,qA 20 (.mov 21 (.t 0)),qA 20 (.mov 22 (.t 5)),qA 20 (.sidx 23 (.t 21) (.t 22)),qA 20 (.bin 24 .leq (.t 23) (.v (.k (.c (.int .u8 57))))),η (.pick 25 (.t 20) (.t 24) (χ false))]
def f27b15:AQ:=ζ f27r14 f27b13
def f27b16:AQ:=.seq f27b15 f27b12
def f27l17:AQ:=.loop [0,4,5] [] f27b16
def f27b18:AQ:=.block 0 f27l17
def f27b19:AQ:=.seq f27b18 f27b8
def f27r20:LA:=[η (.mov 5 (φ 0))]
def f27b21:AQ:=ζ f27r20 f27b19
def f27r22:LA:=[η (.mov 4 (φ 0))]
def f27b23:AQ:=ζ f27r22 f27b21
def f27r24:LA:=[η (.mov 2 (φ 0)),η (.mov 3 (.v (.k (.c (.str [])))))]
def f27b25:AQ:=ζ f27r24 f27b23
def f27:AQ:=f27b25
theorem hf27:zH Tryz.prog 27=some ⟨43,f27.erase,[(RX.t 2),(RX.t 3)]⟩:=by kernel_rfl
theorem okf27:f27.ok=true:=by kernel_rfl
def R27:=PLift.up (ξ (uu f27.eq_1)<|ξ (uu f27b18.eq_1)<|ξ (uu f27b19.eq_1)<|ξ (vv f27r20.eq_1)<|ξ (uu f27b21.eq_1)<|ξ (vv f27r22.eq_1)<|ξ (uu f27b23.eq_1)<|ξ (vv f27r24.eq_1)<|ξ (uu f27b25.eq_1)<|ξ (vv f27r9.eq_1)<|ξ (vv f27r10.eq_1)<|ξ (uu f27b11.eq_1)<|ξ (uu f27b12.eq_1)<|ξ (uu f27b13.eq_1)<|ξ (vv f27r14.eq_1)<|ξ (uu f27b15.eq_1)<|ξ (uu f27b16.eq_1)<|ξ (vv f27r1.eq_1)<|ξ (uu f27b2.eq_1)<|ξ (vv f27r3.eq_1)<|ξ (uu f27b4.eq_1)<|ξ (uu f27b5.eq_1)<|ξ (vv f27r6.eq_1)<|ξ (uu f27b7.eq_1)<|uu f27b8.eq_1)
theorem Q27:type_of% R27.1:=R27.1
def f28r1:LA:=[η (.mov 2 (.v (.k (.c (.str [])))))]
def f28b2:AQ:=ζ f28r1 .ret
def f28r3:LA:=[θ 8 3,η (.bin 9 .add (.t 8) (φ 1)),θ 3 9]
def f28r4:LA:=[θ 14 0,θ 15 3,η (.bin 16 .add (.t 15) (φ 1)),η (.slstr 17 (.t 14) (some (.t 16)) none),θ 2 17]
def f28b5:AQ:=ζ f28r4 .ret
def f28b6:AQ:=.cond (.t 13) f28b5 .skip
def f28r7:LA:=[θ 10 0,θ 11 3,η (.sidx 12 (.t 10) (.t 11)),η (.bin 13 .eql (.t 12) (.v (.k (.c (.int .u8 10)))))]
def f28b8:AQ:=ζ f28r7 f28b6
def f28b9:AQ:=.block 1 f28b8
def f28b10:AQ:=.seq f28b9 (.region f28r3)
def f28b11:AQ:=.cond (.t 7) .skip (.exit 0)
def f28r12:LA:=[θ 4 3,θ 5 0,η (.lenS 6 (.t 5)),yM 7 .lss 4 6]
def f28b13:AQ:=ζ f28r12 f28b11
def f28b14:AQ:=.seq f28b13 f28b10
def f28l15:AQ:=.loop [0,3] [] f28b14
def f28b16:AQ:=.block 0 f28l15
def f28r17:LA:=[η (.mov 3 (φ 0))]
def f28b18:AQ:=ζ f28r17 f28b16
def f28b19:AQ:=.seq f28b18 f28b2
def f28r20:LA:=[η (.mov 2 (.v (.k (.c (.str [])))))]
def f28b21:AQ:=ζ f28r20 f28b19
def f28:AQ:=f28b21
theorem hf28:zH Tryz.prog 28=some ⟨18,f28.erase,[(RX.t 2)]⟩:=by kernel_rfl
theorem okf28:f28.ok=true:=by kernel_rfl
def R28:=PLift.up (ξ (uu f28.eq_1)<|ξ (uu f28b16.eq_1)<|ξ (vv f28r17.eq_1)<|ξ (uu f28b18.eq_1)<|ξ (uu f28b19.eq_1)<|ξ (vv f28r20.eq_1)<|ξ (uu f28b21.eq_1)<|ξ (vv f28r3.eq_1)<|ξ (vv f28r4.eq_1)<|ξ (uu f28b5.eq_1)<|ξ (uu f28b6.eq_1)<|ξ (vv f28r7.eq_1)<|ξ (uu f28b8.eq_1)<|ξ (uu f28b9.eq_1)<|ξ (uu f28b10.eq_1)<|ξ (uu f28b11.eq_1)<|ξ (vv f28r12.eq_1)<|ξ (uu f28b13.eq_1)<|ξ (uu f28b14.eq_1)<|ξ (vv f28r1.eq_1)<|uu f28b2.eq_1)
theorem Q28:type_of% R28.1:=R28.1
def f29r1:LA:=[θ 53 0,θ 54 4,η (.slstr 55 (.t 53) none (some (.t 54))),θ 56 0,θ 57 4,η (.slstr 58 (.t 56) (some (.t 57)) none),θ 2 55,θ 3 58]
def f29b2:AQ:=.seq (.draw f29r1 [[],[],[0,1],[],[],[3,4],[2,0,1,2],[5,6,0,1,2,3,4,5,6]]) .ret
def f29r3:LA:=[θ 51 4,η (.bin 52 .add (.t 51) (φ 1)),θ 4 52]
def f29b4:AQ:=.block 1 (.region f29r3)
def f29b5:AQ:=.cond (.t 50) .skip (.exit 0)
def f29r6:LA:=[θ 5 4,θ 6 0,η (.lenS 7 (.t 6)),yM 8 .lss 5 7,θ 9 8,qA 9 (.mov 10 (.t 0)),qA 9 (.mov 11 (.t 4)),qA 9 (.sidx 12 (.t 10) (.t 11)),qA 9 (.bin 13 .geq (.t 12) (.v (.k (.c (.int .u8 48))))),qA 9 (.mov 14 (.t 13)),qA 14 (.mov 15 (.t 0)),qA 14 (.mov 16 (.t 4)),qA 14 (.sidx 17 (.t 15) (.t 16)),qA 14 (.bin 18 .leq (.t 17) (.v (.k (.c (.int .u8 57))))),qA 9 (.pick 19 (.t 14) (.t 18) (χ false)),qA 9 (.mov 20 (.t 19)),iR 20 (.mov 21 (.t 0)),iR 20 (.mov 22 (.t 4)),iR 20 (.sidx 23 (.t 21) (.t 22)),iR 20 (.bin 24 .eql (.t 23) (.v (.k (.c (.int .u8 95))))),qA 9 (.pick 25 (.t 20) (χ true) (.t 24)),qA 9 (.mov 26 (.t 25)),iR 26 (.mov 27 (.t 0)),iR 26 (.mov 28 (.t 4)),iR 26 (.sidx 29 (.t 27) (.t 28)),iR 26 (.bin 30 .geq (.t 29) (.v (.k (.c (.int .u8 97))))),iR 26 (.mov 31 (.t 30)),qA 31 (.mov 32 (.t 0)),qA 31 (.mov 33 (.t 4)),qA 31 (.sidx 34 (.t 32) (.t 33)),qA 31 (.bin 35 .leq (.t 34) (.v (.k (.c (.int .u8 122))))),iR 26 (.pick 36 (.t 31) (.t 35) (χ false)),qA 9 (.pick 37 (.t 26) (χ true) (.t 36)),qA 9 (.mov 38 (.t 37)),iR 38 (.mov 39 (.t 0)),iR 38 (.mov 40 (.t 4)),iR 38 (.sidx 41 (.t 39) (.t 40)),iR 38 (.bin 42 .geq (.t 41) (.v (.k (.c (.int .u8 65))))),iR 38 (.mov 43 (.t 42)),qA 43 (.mov 44 (.t 0)),qA 43 (.mov 45 (.t 4)),qA 43 (.sidx 46 (.t 44) (.t 45)),qA 43 (.bin 47 .leq (.t 46) (.v (.k (.c (.int .u8 90))))),iR 38 (.pick 48 (.t 43) (.t 47) (χ false)),qA 9 (.pick 49 (.t 38) (χ true) (.t 48)),η (.pick 50 (.t 9) (.t 49) (χ false))]
def f29b7:AQ:=ζ f29r6 f29b5
def f29b8:AQ:=.seq f29b7 f29b4
def f29l9:AQ:=.loop [0,4] [] f29b8
def f29b10:AQ:=.block 0 f29l9
def f29b11:AQ:=.seq f29b10 f29b2
def f29r12:LA:=[η (.mov 4 (φ 0))]
def f29b13:AQ:=ζ f29r12 f29b11
def f29r14:LA:=[η (.mov 2 (.v (.k (.c (.str []))))),η (.mov 3 (.v (.k (.c (.str [])))))]
def f29b15:AQ:=ζ f29r14 f29b13
def f29:AQ:=f29b15
theorem hf29:zH Tryz.prog 29=some ⟨59,f29.erase,[(RX.t 2),(RX.t 3)]⟩:=by kernel_rfl
theorem okf29:f29.ok=true:=by kernel_rfl
def R29:=PLift.up (ξ (uu f29.eq_1)<|ξ (uu f29b10.eq_1)<|ξ (uu f29b11.eq_1)<|ξ (vv f29r12.eq_1)<|ξ (uu f29b13.eq_1)<|ξ (vv f29r14.eq_1)<|ξ (uu f29b15.eq_1)<|ξ (vv f29r1.eq_1)<|ξ (uu f29b2.eq_1)<|ξ (vv f29r3.eq_1)<|ξ (uu f29b4.eq_1)<|ξ (uu f29b5.eq_1)<|ξ (vv f29r6.eq_1)<|ξ (uu f29b7.eq_1)<|uu f29b8.eq_1)
theorem Q29:type_of% R29.1:=R29.1
def f31r1:LA:=[θ 45 8,θ 46 5,θ 2 45,θ 3 46]
def f31b2:AQ:=ζ f31r1 .ret
def f31r3:LA:=[θ 44 5,η (.mov 2 (.v (.k (.c (.int .i64 (-1)))))),θ 3 44]
def f31b4:AQ:=ζ f31r3 .ret
def f31b5:AQ:=.cond (.t 43) f31b4 .skip
def f31r6:LA:=[θ 42 9,η (.bin 43 .neq (.t 42) (φ 0))]
def f31b7:AQ:=ζ f31r6 f31b5
def f31b8:AQ:=.seq f31b7 f31b2
def f31r9:LA:=[θ 36 4,θ 37 6,θ 38 7,η (.call (some 39) 73 [(.t 36),(.t 37),(.t 38)]),θ 35 39,Δ 40 35 0,Δ 41 35 1,θ 8 40,θ 9 41]
def f31b10:AQ:=ζ f31r9 f31b8
def f31r11:LA:=[θ 31 5,Θ 32 27 31,θ 30 32,Δ 33 30 0,Δ 34 30 1,θ 7 33,θ 5 34]
def f31b12:AQ:=ζ f31r11 f31b10
def f31r13:LA:=[θ 26 5,η (.call (some 27) 26 [(.t 26),(.v (.k (.c (.str [45]))))]),θ 25 27,Δ 28 25 0,Δ 29 25 1,θ 5 28]
def f31b14:AQ:=ζ f31r13 f31b12
def f31r15:LA:=[θ 21 5,Θ 22 27 21,θ 20 22,Δ 23 20 0,Δ 24 20 1,θ 6 23,θ 5 24]
def f31b16:AQ:=ζ f31r15 f31b14
def f31r17:LA:=[θ 16 5,η (.call (some 17) 26 [(.t 16),(.v (.k (.c (.str [45]))))]),θ 15 17,Δ 18 15 0,Δ 19 15 1,θ 5 18]
def f31b18:AQ:=ζ f31r17 f31b16
def f31r19:LA:=[θ 11 0,Θ 12 27 11,θ 10 12,Δ 13 10 0,Δ 14 10 1,θ 4 13,θ 5 14]
def f31b20:AQ:=ζ f31r19 f31b18
def f31r21:LA:=[η (.mov 2 (φ 0)),η (.mov 3 (.v (.k (.c (.str [])))))]
def f31b22:AQ:=ζ f31r21 f31b20
def f31:AQ:=f31b22
theorem hf31:zH Tryz.prog 31=some ⟨47,f31.erase,[(RX.t 2),(RX.t 3)]⟩:=by kernel_rfl
theorem okf31:f31.ok=true:=by kernel_rfl
def R31:=PLift.up (ξ (uu f31.eq_1)<|ξ (vv f31r19.eq_1)<|ξ (uu f31b20.eq_1)<|ξ (vv f31r21.eq_1)<|ξ (uu f31b22.eq_1)<|ξ (vv f31r17.eq_1)<|ξ (uu f31b18.eq_1)<|ξ (vv f31r15.eq_1)<|ξ (uu f31b16.eq_1)<|ξ (vv f31r13.eq_1)<|ξ (uu f31b14.eq_1)<|ξ (vv f31r11.eq_1)<|ξ (uu f31b12.eq_1)<|ξ (vv f31r9.eq_1)<|ξ (uu f31b10.eq_1)<|ξ (vv f31r1.eq_1)<|ξ (uu f31b2.eq_1)<|ξ (uu f31b5.eq_1)<|ξ (vv f31r6.eq_1)<|ξ (uu f31b7.eq_1)<|ξ (uu f31b8.eq_1)<|ξ (vv f31r3.eq_1)<|uu f31b4.eq_1)
theorem Q31:type_of% R31.1:=R31.1
def f32r1:LA:=[ω 77 3 14,Φ 3 2 77]
def f32b2:AQ:=ζ f32r1 .ret
def f32r3:LA:=[Γ 76 0 14,η (.store 1 (.t 76) (φ 2))]
def f32b4:AQ:=.cond (.t 75) (.region f32r3) .skip
def f32r5:LA:=[θ 75 17]
def f32b6:AQ:=ζ f32r5 f32b4
def f32b7:AQ:=.seq f32b6 f32b2
def f32r8:LA:=[θ 71 11,η (.call (some 72) 26 [(.t 71),(.v (.k (.c (.str [100,97,116,101]))))]),θ 70 72,Δ 73 70 0,Δ 74 70 1,θ 16 73,θ 17 74]
def f32b9:AQ:=ζ f32r8 f32b7
def f32r10:LA:=[θ 66 11,η (.call (some 67) 26 [(.t 66),(.v (.k (.c (.str [32,109,111,110,116,104,115,32,97,102,116,101,114,32]))))]),θ 65 67,Δ 68 65 0,Δ 69 65 1,θ 11 68]
def f32r11:LA:=[Γ 64 2 14,η (.store 1 (.t 64) (φ 1))]
def f32b12:AQ:=ζ f32r11 (.region f32r10)
def f32b13:AQ:=.cond (.t 63) f32b12 .skip
def f32r14:LA:=[θ 62 15,η (.un 63 .not (.t 62))]
def f32b15:AQ:=ζ f32r14 f32b13
def f32b16:AQ:=.seq f32b15 f32b9
def f32r17:LA:=[θ 58 11,η (.call (some 59) 26 [(.t 58),(.v (.k (.c (.str [32,100,97,121,115,32,97,102,116,101,114,32]))))]),θ 57 59,Δ 60 57 0,Δ 61 57 1,θ 11 60,θ 15 61]
def f32b18:AQ:=ζ f32r17 f32b16
def f32r19:LA:=[θ 55 13,η (.build 56 [(.int .i64 0),(.int .i64 0),(.int .i64 0)] [(0,(1,(φ 1))),(1,(1,(.t 55)))]),η (.alloc 14 33 [(.int .i64 0),(.int .i64 0),(.int .i64 0)]),Φ 3 14 56]
def f32b20:AQ:=ζ f32r19 f32b18
def f32r21:LA:=[θ 51 11,Θ 52 27 51,θ 50 52,Δ 53 50 0,Δ 54 50 1,θ 13 53,θ 11 54]
def f32b22:AQ:=ζ f32r21 f32b20
def f32r23:LA:=[θ 46 0,η (.call (some 47) 26 [(.t 46),(.v (.k (.c (.str [112,97,121,32]))))]),θ 45 47,Δ 48 45 0,Δ 49 45 1,θ 11 48,θ 12 49]
def f32b24:AQ:=ζ f32r23 f32b22
def f32r25:LA:=[η (.build 44 [(.int .i64 0),(.int .i64 0),(.int .i64 0)] [(0,(1,(φ 0)))]),Φ 3 2 44]
def f32b26:AQ:=ζ f32r25 .ret
def f32b27:AQ:=.cond (.t 43) f32b26 .skip
def f32r28:LA:=[θ 43 10]
def f32b29:AQ:=ζ f32r28 f32b27
def f32b30:AQ:=.seq f32b29 f32b24
def f32r31:LA:=[θ 39 0,η (.call (some 40) 26 [(.t 39),(.v (.k (.c (.str [112,97,121,32,97,116,32,115,105,103,104,116]))))]),θ 38 40,Δ 41 38 0,Δ 42 38 1,θ 9 41,θ 10 42]
def f32b32:AQ:=ζ f32r31 f32b30
def f32r33:LA:=[θ 36 7,η (.build 37 [(.int .i64 0),(.int .i64 0),(.int .i64 0)] [(0,(1,(φ 3))),(1,(1,(.t 36)))]),Φ 3 2 37]
def f32b34:AQ:=ζ f32r33 .ret
def f32r35:LA:=[θ 32 5,Θ 33 31 32,θ 31 33,Δ 34 31 0,Δ 35 31 1,θ 7 34,θ 8 35]
def f32b36:AQ:=ζ f32r35 f32b34
def f32b37:AQ:=.cond (.t 30) f32b36 .skip
def f32r38:LA:=[θ 30 6]
def f32b39:AQ:=ζ f32r38 f32b37
def f32b40:AQ:=.seq f32b39 f32b32
def f32r41:LA:=[θ 26 0,η (.call (some 27) 26 [(.t 26),(.v (.k (.c (.str [112,97,121,32,111,110,32]))))]),θ 25 27,Δ 28 25 0,Δ 29 25 1,θ 5 28,θ 6 29]
def f32b42:AQ:=ζ f32r41 f32b40
def f32r43:LA:=[η (.build 24 [(.int .i64 0),(.int .i64 0),(.int .i64 0)] [(0,(1,(φ 4)))]),Φ 3 2 24]
def f32b44:AQ:=ζ f32r43 .ret
def f32b45:AQ:=.cond (.t 23) f32b44 .skip
def f32r46:LA:=[θ 23 4]
def f32b47:AQ:=ζ f32r46 f32b45
def f32b48:AQ:=.seq f32b47 f32b42
def f32r49:LA:=[θ 19 0,η (.call (some 20) 26 [(.t 19),(.v (.k (.c (.str [112,97,121,32,97,116,32,117,115,97,110,99,101]))))]),θ 18 20,Δ 21 18 0,Δ 22 18 1,θ 3 21,θ 4 22]
def f32b50:AQ:=ζ f32r49 f32b48
def f32r51:LA:=[η (.alloc 2 33 [(.int .i64 0),(.int .i64 0),(.int .i64 0)])]
def f32b52:AQ:=ζ f32r51 f32b50
def f32:AQ:=f32b52
theorem hf32:zH Tryz.prog 32=some ⟨78,f32.erase,[(RX.cell 2 3 true)]⟩:=by kernel_rfl
theorem okf32:f32.ok=true:=by kernel_rfl
def R32:=PLift.up (ξ (uu f32.eq_1)<|ξ (vv f32r49.eq_1)<|ξ (uu f32b50.eq_1)<|ξ (vv f32r51.eq_1)<|ξ (uu f32b52.eq_1)<|ξ (vv f32r43.eq_1)<|ξ (uu f32b44.eq_1)<|ξ (uu f32b45.eq_1)<|ξ (vv f32r46.eq_1)<|ξ (uu f32b47.eq_1)<|ξ (uu f32b48.eq_1)<|ξ (vv f32r41.eq_1)<|ξ (uu f32b42.eq_1)<|ξ (vv f32r35.eq_1)<|ξ (uu f32b36.eq_1)<|ξ (uu f32b37.eq_1)<|ξ (vv f32r38.eq_1)<|ξ (uu f32b39.eq_1)<|ξ (uu f32b40.eq_1)<|ξ (vv f32r33.eq_1)<|ξ (uu f32b34.eq_1)<|ξ (vv f32r31.eq_1)<|ξ (uu f32b32.eq_1)<|ξ (vv f32r25.eq_1)<|ξ (uu f32b26.eq_1)<|ξ (uu f32b27.eq_1)<|ξ (vv f32r28.eq_1)<|ξ (uu f32b29.eq_1)<|ξ (uu f32b30.eq_1)<|ξ (vv f32r23.eq_1)<|ξ (uu f32b24.eq_1)<|ξ (vv f32r21.eq_1)<|ξ (uu f32b22.eq_1)<|ξ (vv f32r17.eq_1)<|ξ (uu f32b18.eq_1)<|ξ (vv f32r19.eq_1)<|ξ (uu f32b20.eq_1)<|ξ (vv f32r8.eq_1)<|ξ (uu f32b9.eq_1)<|ξ (uu f32b13.eq_1)<|ξ (vv f32r14.eq_1)<|ξ (uu f32b15.eq_1)<|ξ (uu f32b16.eq_1)<|ξ (vv f32r1.eq_1)<|ξ (uu f32b2.eq_1)<|ξ (vv f32r3.eq_1)<|ξ (uu f32b4.eq_1)<|ξ (vv f32r5.eq_1)<|ξ (uu f32b6.eq_1)<|ξ (uu f32b7.eq_1)<|ξ (vv f32r10.eq_1)<|ξ (vv f32r11.eq_1)<|uu f32b12.eq_1)
theorem Q32:type_of% R32.1:=R32.1
def f33r1:LA:=[ω 45 15 4,Φ 15 6 45]
def f33b2:AQ:=ζ f33r1 .ret
def f33r3:LA:=[Γ 41 13 4,ψ 42 1 41,η (.bin 43 .or (.t 42) (φ 4)),Γ 44 13 4,Φ 1 44 43]
def f33b4:AQ:=.cond (.t 40) (.region f33r3) .skip
def f33r5:LA:=[θ 40 13]
def f33b6:AQ:=ζ f33r5 f33b4
def f33b7:AQ:=.seq f33b6 f33b2
def f33r8:LA:=[θ 36 9,η (.call (some 37) 26 [(.t 36),(.v (.k (.c (.str [32,110,111,116]))))]),θ 35 37,Δ 38 35 0,Δ 39 35 1,θ 12 38,θ 13 39]
def f33b9:AQ:=ζ f33r8 f33b7
def f33r10:LA:=[ω 31 8 3,θ 32 11,Ξ 33 35 31 32,Γ 34 2 4,Φ 1 34 33]
def f33b11:AQ:=ζ f33r10 f33b9
def f33r12:LA:=[θ 27 9,Θ 28 29 27,θ 26 28,Δ 29 26 0,Δ 30 26 1,θ 11 29,θ 9 30]
def f33b13:AQ:=ζ f33r12 f33b11
def f33r14:LA:=[θ 22 2,η (.call (some 23) 26 [(.t 22),(.v (.k (.c (.str [116,111,32]))))]),θ 21 23,Δ 24 21 0,Δ 25 21 1,θ 9 24,θ 10 25]
def f33b15:AQ:=ζ f33r14 f33b13
def f33r16:LA:=[ω 20 15 4,Φ 15 6 20]
def f33b17:AQ:=ζ f33r16 .ret
def f33b18:AQ:=.cond (.t 19) f33b17 .skip
def f33r19:LA:=[θ 19 8]
def f33b20:AQ:=ζ f33r19 f33b18
def f33b21:AQ:=.seq f33b20 f33b15
def f33r22:LA:=[θ 15 2,η (.call (some 16) 26 [(.t 15),(.v (.k (.c (.str [116,111,32,98,101,97,114,101,114,10]))))]),θ 14 16,Δ 17 14 0,Δ 18 14 1,θ 7 17,θ 8 18]
def f33b23:AQ:=ζ f33r22 f33b21
def f33r24:LA:=[zX 3 31 0,zX 4 35 1,η (.alloc 6 35 [(.int .i64 0),(.int .i64 0),(.int .i64 0),(.int .i64 0),(.int .i64 0),(.int .i64 0),(.int .i64 0),(.int .i64 0),(.int .i64 0),(.int .i64 0),(.int .i64 0),(.int .i64 0),(.int .i64 0),(.int .i64 0),(.int .i64 0)])]
def f33b25:AQ:=ζ f33r24 f33b23
def f33:AQ:=f33b25
theorem hf33:zH Tryz.prog 33=some ⟨46,f33.erase,[(RX.cell 6 15 true)]⟩:=by kernel_rfl
theorem okf33:f33.ok=true:=by kernel_rfl
def R33:=PLift.up (ξ (uu f33.eq_1)<|ξ (vv f33r22.eq_1)<|ξ (uu f33b23.eq_1)<|ξ (vv f33r24.eq_1)<|ξ (uu f33b25.eq_1)<|ξ (vv f33r16.eq_1)<|ξ (uu f33b17.eq_1)<|ξ (uu f33b18.eq_1)<|ξ (vv f33r19.eq_1)<|ξ (uu f33b20.eq_1)<|ξ (uu f33b21.eq_1)<|ξ (vv f33r14.eq_1)<|ξ (uu f33b15.eq_1)<|ξ (vv f33r12.eq_1)<|ξ (uu f33b13.eq_1)<|ξ (vv f33r10.eq_1)<|ξ (uu f33b11.eq_1)<|ξ (vv f33r8.eq_1)<|ξ (uu f33b9.eq_1)<|ξ (vv f33r1.eq_1)<|ξ (uu f33b2.eq_1)<|ξ (vv f33r3.eq_1)<|ξ (uu f33b4.eq_1)<|ξ (vv f33r5.eq_1)<|ξ (uu f33b6.eq_1)<|uu f33b7.eq_1)
theorem Q33:type_of% R33.1:=R33.1
def f34r1:LA:=[ω 57 15 4,Φ 15 6 57]
def f34b2:AQ:=ζ f34r1 .ret
def f34r3:LA:=[θ 52 8,Θ 53 27 52,θ 51 53,Δ 54 51 0,Δ 55 51 1,Γ 56 12 4,Φ 1 56 54]
def f34b4:AQ:=.cond (.t 50) (.region f34r3) .skip
def f34r5:LA:=[θ 50 11]
def f34b6:AQ:=ζ f34r5 f34b4
def f34b7:AQ:=.seq f34b6 f34b2
def f34r8:LA:=[θ 46 8,η (.call (some 47) 26 [(.t 46),(.v (.k (.c (.str [32,119,105,116,104,32,105,110,116,101,114,101,115,116,32,97,116,32]))))]),θ 45 47,Δ 48 45 0,Δ 49 45 1,θ 8 48,θ 11 49]
def f34b9:AQ:=ζ f34r8 f34b7
def f34r10:LA:=[θ 34 10,η (.bin 35 .add (.t 34) (φ 1)),θ 10 35]
def f34r11:LA:=[θ 43 10,Γ 44 4 4,Φ 1 44 43]
def f34b12:AQ:=.cond (.t 42) (.region f34r11) .skip
def f34r13:LA:=[Γ 36 0 3,ψ 37 1 36,θ 38 10,Ψ 39 1 37 38,ψ 40 1 39,θ 41 9,yM 42 .eql 40 41]
def f34b14:AQ:=ζ f34r13 f34b12
def f34b15:AQ:=.block 1 f34b14
def f34b16:AQ:=.seq f34b15 (.region f34r10)
def f34b17:AQ:=.cond (.t 33) .skip (.exit 0)
def f34r18:LA:=[θ 29 10,Γ 30 0 3,ψ 31 1 30,Ω 32 31,yM 33 .lss 29 32]
def f34b19:AQ:=ζ f34r18 f34b17
def f34b20:AQ:=.seq f34b19 f34b16
def f34l21:AQ:=.loop [3,4,6,8,9,10] [3,4,6] f34b20
def f34b22:AQ:=.block 0 f34l21
def f34r23:LA:=[η (.mov 10 (φ 0))]
def f34b24:AQ:=ζ f34r23 f34b22
def f34b25:AQ:=.seq f34b24 f34b9
def f34r26:LA:=[θ 25 8,Θ 26 29 25,θ 24 26,Δ 27 24 0,Δ 28 24 1,θ 9 27,θ 8 28]
def f34b27:AQ:=ζ f34r26 f34b25
def f34r28:LA:=[θ 20 8,η (.call (some 21) 26 [(.t 20),(.v (.k (.c (.str [32]))))]),θ 19 21,Δ 22 19 0,Δ 23 19 1,θ 8 22]
def f34b29:AQ:=ζ f34r28 f34b27
def f34r30:LA:=[θ 17 7,Γ 18 3 4,Φ 1 18 17]
def f34b31:AQ:=ζ f34r30 f34b29
def f34r32:LA:=[θ 13 2,Θ 14 27 13,θ 12 14,Δ 15 12 0,Δ 16 12 1,θ 7 15,θ 8 16]
def f34b33:AQ:=ζ f34r32 f34b31
def f34r34:LA:=[zX 3 31 0,zX 4 35 1,η (.alloc 6 35 [(.int .i64 0),(.int .i64 0),(.int .i64 0),(.int .i64 0),(.int .i64 0),(.int .i64 0),(.int .i64 0),(.int .i64 0),(.int .i64 0),(.int .i64 0),(.int .i64 0),(.int .i64 0),(.int .i64 0),(.int .i64 0),(.int .i64 0)])]
def f34b35:AQ:=ζ f34r34 f34b33
def f34:AQ:=f34b35
theorem hf34:zH Tryz.prog 34=some ⟨58,f34.erase,[(RX.cell 6 15 true)]⟩:=by kernel_rfl
theorem okf34:f34.ok=true:=by kernel_rfl
def R34:=PLift.up (ξ (uu f34.eq_1)<|ξ (vv f34r32.eq_1)<|ξ (uu f34b33.eq_1)<|ξ (vv f34r34.eq_1)<|ξ (uu f34b35.eq_1)<|ξ (vv f34r28.eq_1)<|ξ (uu f34b29.eq_1)<|ξ (vv f34r30.eq_1)<|ξ (uu f34b31.eq_1)<|ξ (vv f34r26.eq_1)<|ξ (uu f34b27.eq_1)<|ξ (uu f34b22.eq_1)<|ξ (vv f34r23.eq_1)<|ξ (uu f34b24.eq_1)<|ξ (uu f34b25.eq_1)<|ξ (vv f34r10.eq_1)<|ξ (vv f34r11.eq_1)<|ξ (uu f34b12.eq_1)<|ξ (vv f34r13.eq_1)<|ξ (uu f34b14.eq_1)<|ξ (uu f34b15.eq_1)<|ξ (uu f34b16.eq_1)<|ξ (uu f34b17.eq_1)<|ξ (vv f34r18.eq_1)<|ξ (uu f34b19.eq_1)<|ξ (uu f34b20.eq_1)<|ξ (vv f34r8.eq_1)<|ξ (uu f34b9.eq_1)<|ξ (vv f34r3.eq_1)<|ξ (uu f34b4.eq_1)<|ξ (vv f34r5.eq_1)<|ξ (uu f34b6.eq_1)<|ξ (uu f34b7.eq_1)<|ξ (vv f34r1.eq_1)<|uu f34b2.eq_1)
theorem Q34:type_of% R34.1:=R34.1
def f36r1:LA:=[ω 68 15 4,Φ 15 6 68]
def f36b2:AQ:=ζ f36r1 .ret
def f36r3:LA:=[ω 64 8 3,θ 65 15,Ξ 66 35 64 65,Γ 67 0 4,Φ 1 67 66]
def f36b4:AQ:=ζ f36r3 f36b2
def f36r5:LA:=[θ 60 9,Θ 61 29 60,θ 59 61,Δ 62 59 0,Δ 63 59 1,θ 15 62,θ 16 63]
def f36b6:AQ:=ζ f36r5 f36b4
def f36r7:LA:=[θ 55 2,η (.call (some 56) 26 [(.t 55),(.v (.k (.c (.str [115,105,103,110,101,100,32]))))]),θ 54 56,Δ 57 54 0,Δ 58 54 1,θ 9 57]
def f36b8:AQ:=ζ f36r7 f36b6
def f36r9:LA:=[θ 52 2,Θ 53 28 52,θ 2 53]
def f36r10:LA:=[Γ 48 13 4,ψ 49 1 48,η (.bin 50 .or (.t 49) (φ 2)),Γ 51 13 4,Φ 1 51 50]
def f36b11:AQ:=ζ f36r10 (.region f36r9)
def f36b12:AQ:=.cond (.t 47) f36b11 .skip
def f36r13:LA:=[θ 47 14]
def f36b14:AQ:=ζ f36r13 f36b12
def f36b15:AQ:=.seq f36b14 f36b8
def f36r16:LA:=[θ 43 2,η (.call (some 44) 26 [(.t 43),(.v (.k (.c (.str [119,105,116,104,111,117,116,32]))))]),θ 42 44,Δ 45 42 0,Δ 46 42 1,θ 13 45,θ 14 46]
def f36b17:AQ:=ζ f36r16 f36b15
def f36r18:LA:=[θ 40 2,Θ 41 28 40,θ 2 41]
def f36r19:LA:=[ω 36 8 3,θ 37 11,Ξ 38 35 36 37,Γ 39 11 4,Φ 1 39 38]
def f36b20:AQ:=ζ f36r19 (.region f36r18)
def f36r21:LA:=[θ 32 9,Θ 33 29 32,θ 31 33,Δ 34 31 0,Δ 35 31 1,θ 11 34,θ 12 35]
def f36b22:AQ:=ζ f36r21 f36b20
def f36b23:AQ:=.cond (.t 30) f36b22 .skip
def f36r24:LA:=[θ 30 10]
def f36b25:AQ:=ζ f36r24 f36b23
def f36b26:AQ:=.seq f36b25 f36b17
def f36r27:LA:=[θ 26 2,η (.call (some 27) 26 [(.t 26),(.v (.k (.c (.str [105,110,32,110,101,101,100,32,97,115,107,32]))))]),θ 25 27,Δ 28 25 0,Δ 29 25 1,θ 9 28,θ 10 29]
def f36b28:AQ:=ζ f36r27 f36b26
def f36r29:LA:=[θ 23 2,Θ 24 28 23,θ 2 24]
def f36b30:AQ:=.cond (.t 22) (.region f36r29) .skip
def f36r31:LA:=[θ 22 8]
def f36b32:AQ:=ζ f36r31 f36b30
def f36b33:AQ:=.seq f36b32 f36b28
def f36r34:LA:=[θ 18 2,η (.call (some 19) 26 [(.t 18),(.v (.k (.c (.str [117,110,108,101,115,115,32]))))]),θ 17 19,Δ 20 17 0,Δ 21 17 1,θ 7 20,θ 8 21]
def f36b35:AQ:=ζ f36r34 f36b33
def f36r36:LA:=[zX 3 31 0,zX 4 35 1,η (.alloc 6 35 [(.int .i64 0),(.int .i64 0),(.int .i64 0),(.int .i64 0),(.int .i64 0),(.int .i64 0),(.int .i64 0),(.int .i64 0),(.int .i64 0),(.int .i64 0),(.int .i64 0),(.int .i64 0),(.int .i64 0),(.int .i64 0),(.int .i64 0)])]
def f36b37:AQ:=ζ f36r36 f36b35
def f36:AQ:=f36b37
theorem hf36:zH Tryz.prog 36=some ⟨69,f36.erase,[(RX.cell 6 15 true)]⟩:=by kernel_rfl
theorem okf36:f36.ok=true:=by kernel_rfl
def R36:=PLift.up (ξ (uu f36.eq_1)<|ξ (vv f36r34.eq_1)<|ξ (uu f36b35.eq_1)<|ξ (vv f36r36.eq_1)<|ξ (uu f36b37.eq_1)<|ξ (vv f36r27.eq_1)<|ξ (uu f36b28.eq_1)<|ξ (vv f36r29.eq_1)<|ξ (uu f36b30.eq_1)<|ξ (vv f36r31.eq_1)<|ξ (uu f36b32.eq_1)<|ξ (uu f36b33.eq_1)<|ξ (vv f36r16.eq_1)<|ξ (uu f36b17.eq_1)<|ξ (vv f36r21.eq_1)<|ξ (uu f36b22.eq_1)<|ξ (uu f36b23.eq_1)<|ξ (vv f36r24.eq_1)<|ξ (uu f36b25.eq_1)<|ξ (uu f36b26.eq_1)<|ξ (vv f36r18.eq_1)<|ξ (vv f36r19.eq_1)<|ξ (uu f36b20.eq_1)<|ξ (vv f36r7.eq_1)<|ξ (uu f36b8.eq_1)<|ξ (vv f36r9.eq_1)<|ξ (vv f36r10.eq_1)<|ξ (uu f36b11.eq_1)<|ξ (uu f36b12.eq_1)<|ξ (vv f36r13.eq_1)<|ξ (uu f36b14.eq_1)<|ξ (uu f36b15.eq_1)<|ξ (vv f36r5.eq_1)<|ξ (uu f36b6.eq_1)<|ξ (vv f36r3.eq_1)<|ξ (uu f36b4.eq_1)<|ξ (vv f36r1.eq_1)<|uu f36b2.eq_1)
theorem Q36:type_of% R36.1:=R36.1
def f11r1:LA:=[ω 132 15 7,θ 133 10,η (.bin 134 .sub (.t 133) (φ 1)),Φ 15 4 132,θ 5 134,η (.mov 6 (φ 0))]
def f11b2:AQ:=ζ f11r1 .ret
def f11r3:LA:=[η (.build 131 [(.int .i64 0),(.int .i64 0),(.int .i64 0),(.int .i64 0),(.int .i64 0),(.int .i64 0),(.int .i64 0),(.int .i64 0),(.int .i64 0),(.int .i64 0),(.int .i64 0),(.int .i64 0),(.int .i64 0),(.int .i64 0),(.int .i64 0)] []),Φ 15 4 131,η (.mov 5 (φ 0)),η (.mov 6 (φ 9))]
def f11b4:AQ:=ζ f11r3 .ret
def f11b5:AQ:=.cond (.t 130) f11b4 .skip
def f11r6:LA:=[θ 120 1,η (.bin 121 .eql (.t 120) (.v (.k (.c (.str []))))),θ 122 121,iR 122 (.load 123 8 true (.t 2)),iR 122 (.load 124 15 true (.t 7)),iR 122 (.mov 125 (.t 10)),iR 122 (.bin 126 .sub (.t 125) (φ 1)),iR 122 (.call (some 127) 15 [(.t 123),(.t 124),(.t 126)]),iR 122 (.mov 128 (.t 1)),iR 122 (.bin 129 .neq (.t 127) (.t 128)),η (.pick 130 (.t 122) (χ true) (.t 129))]
def f11b7:AQ:=ζ f11r6 f11b5
def f11b8:AQ:=.seq f11b7 f11b2
def f11r9:LA:=[ω 115 8 2,ω 116 15 7,θ 117 8,Θ 118 28 117,η (.call (some 119) 36 [(.t 115),(.t 116),(.t 118)]),Φ 15 7 119]
def f11b10:AQ:=.seq (.draw f11r9 [[],[],[],[2],[0,1,3,3],[4,4,0,1,2,3,4]]) f11b8
def f11r11:LA:=[ω 111 8 2,θ 112 11,Ξ 113 30 111 112,Γ 114 10 7,Φ 1 114 113]
def f11b12:AQ:=ζ f11r11 f11b10
def f11r13:LA:=[θ 107 8,Θ 108 29 107,θ 106 108,Δ 109 106 0,Δ 110 106 1,θ 11 109,θ 8 110]
def f11b14:AQ:=ζ f11r13 f11b12
def f11r15:LA:=[θ 102 8,η (.call (some 103) 26 [(.t 102),(.v (.k (.c (.str [32,105,110,32]))))]),θ 101 103,Δ 104 101 0,Δ 105 101 1,θ 8 104]
def f11b16:AQ:=ζ f11r15 f11b14
def f11r17:LA:=[ω 97 8 2,θ 98 11,Ξ 99 35 97 98,Γ 100 1 7,Φ 1 100 99]
def f11b18:AQ:=ζ f11r17 f11b16
def f11r19:LA:=[θ 93 8,Θ 94 29 93,θ 92 94,Δ 95 92 0,Δ 96 92 1,θ 11 95,θ 8 96]
def f11b20:AQ:=ζ f11r19 f11b18
def f11r21:LA:=[θ 88 8,η (.call (some 89) 26 [(.t 88),(.v (.k (.c (.str [116,111,32,98,101,32,112,97,105,100,32,98,121,32]))))]),θ 87 89,Δ 90 87 0,Δ 91 87 1,θ 8 90]
def f11b22:AQ:=ζ f11r21 f11b20
def f11r23:LA:=[θ 85 8,Θ 86 28 85,θ 8 86]
def f11b24:AQ:=ζ f11r23 f11b22
def f11r25:LA:=[ω 81 8 2,ω 82 15 7,θ 83 8,η (.call (some 84) 34 [(.t 81),(.t 82),(.t 83)]),Φ 15 7 84]
def f11b26:AQ:=ζ f11r25 f11b24
def f11r27:LA:=[θ 79 8,Θ 80 28 79,θ 8 80]
def f11b28:AQ:=ζ f11r27 f11b26
def f11r29:LA:=[ω 75 8 2,ω 76 15 7,θ 77 8,η (.call (some 78) 33 [(.t 75),(.t 76),(.t 77)]),Φ 15 7 78]
def f11b30:AQ:=ζ f11r29 f11b28
def f11r31:LA:=[θ 73 8,Θ 74 28 73,θ 8 74]
def f11b32:AQ:=ζ f11r31 f11b30
def f11r33:LA:=[θ 70 8,Θ 71 32 70,Γ 72 5 7,Φ 3 72 71]
def f11b34:AQ:=ζ f11r33 f11b32
def f11r35:LA:=[θ 68 8,Θ 69 28 68,θ 8 69]
def f11b36:AQ:=ζ f11r35 f11b34
def f11r37:LA:=[θ 63 8,Θ 64 31 63,θ 62 64,Δ 65 62 0,Δ 66 62 1,Γ 67 8 7,Φ 1 67 65,θ 8 66]
def f11b38:AQ:=ζ f11r37 f11b36
def f11r39:LA:=[θ 58 8,η (.call (some 59) 26 [(.t 58),(.v (.k (.c (.str [32,111,110,32]))))]),θ 57 59,Δ 60 57 0,Δ 61 57 1,θ 8 60]
def f11b40:AQ:=ζ f11r39 f11b38
def f11r41:LA:=[ω 53 8 2,θ 54 11,Ξ 55 30 53 54,Γ 56 9 7,Φ 1 56 55]
def f11b42:AQ:=ζ f11r41 f11b40
def f11r43:LA:=[θ 49 8,Θ 50 29 49,θ 48 50,Δ 51 48 0,Δ 52 48 1,θ 11 51,θ 8 52]
def f11b44:AQ:=ζ f11r43 f11b42
def f11r45:LA:=[θ 44 8,η (.call (some 45) 26 [(.t 44),(.v (.k (.c (.str [100,114,97,119,110,32,105,110,32]))))]),θ 43 45,Δ 46 43 0,Δ 47 43 1,θ 8 46]
def f11b46:AQ:=ζ f11r45 f11b44
def f11r47:LA:=[θ 41 8,Θ 42 28 41,θ 8 42]
def f11b48:AQ:=ζ f11r47 f11b46
def f11r49:LA:=[θ 36 8,Θ 37 27 36,θ 35 37,Δ 38 35 0,Δ 39 35 1,Γ 40 14 7,Φ 1 40 38,θ 8 39]
def f11b50:AQ:=ζ f11r49 f11b48
def f11r51:LA:=[θ 31 8,η (.call (some 32) 26 [(.t 31),(.v (.k (.c (.str [32,111,102,32]))))]),θ 30 32,Δ 33 30 0,Δ 34 30 1,θ 8 33]
def f11b52:AQ:=ζ f11r51 f11b50
def f11r53:LA:=[θ 26 8,Θ 27 27 26,θ 25 27,Δ 28 25 0,Δ 29 25 1,θ 10 28,θ 8 29]
def f11b54:AQ:=ζ f11r53 f11b52
def f11r55:LA:=[Γ 19 13 7,η (.store 1 (.t 19) (φ 1))]
def f11r56:LA:=[θ 21 1,η (.call (some 22) 26 [(.t 21),(.v (.k (.c (.str [112,97,112,101,114,32]))))]),θ 20 22,Δ 23 20 0,Δ 24 20 1,θ 8 23]
def f11b57:AQ:=.cond (.t 18) (.region f11r55) (.region f11r56)
def f11r58:LA:=[θ 18 9]
def f11b59:AQ:=ζ f11r58 f11b57
def f11b60:AQ:=.seq f11b59 f11b54
def f11r61:LA:=[θ 14 1,η (.call (some 15) 26 [(.t 14),(.v (.k (.c (.str [98,105,108,108,32]))))]),θ 13 15,Δ 16 13 0,Δ 17 13 1,θ 8 16,θ 9 17]
def f11b62:AQ:=ζ f11r61 f11b60
def f11r63:LA:=[(η (.build 12 [(.int .i64 0),(.int .i64 0),(.int .i64 0),(.int .i64 0),(.int .i64 0),(.int .i64 0),(.int .i64 0),(.int .i64 0),(.int .i64 0),(.int .i64 0),(.int .i64 0),(.int .i64 0),(.int .i64 0),(.int .i64 0),(.int .i64 0)] [(2,(1,(.v (.k (.c (.int .i64 (-1))))))),(11,(1,(.v (.k (.c (.int .i64 (-1))))))),(4,(1,(.v (.k (.c (.int .i64 (-1)))))))])),η (.alloc 7 35 [(.int .i64 0),(.int .i64 0),(.int .i64 0),(.int .i64 0),(.int .i64 0),(.int .i64 0),(.int .i64 0),(.int .i64 0),(.int .i64 0),(.int .i64 0),(.int .i64 0),(.int .i64 0),(.int .i64 0),(.int .i64 0),(.int .i64 0)]),Φ 15 7 12]
def f11b64:AQ:=ζ f11r63 f11b62
def f11r65:LA:=[zX 2 31 0,η (.alloc 4 35 [(.int .i64 0),(.int .i64 0),(.int .i64 0),(.int .i64 0),(.int .i64 0),(.int .i64 0),(.int .i64 0),(.int .i64 0),(.int .i64 0),(.int .i64 0),(.int .i64 0),(.int .i64 0),(.int .i64 0),(.int .i64 0),(.int .i64 0)]),η (.mov 5 (φ 0)),η (.mov 6 (φ 0))]
def f11b66:AQ:=ζ f11r65 f11b64
def f11:AQ:=f11b66
theorem hf11:zH Tryz.prog 11=some ⟨135,f11.erase,[(RX.cell 4 15 true),(RX.t 5),(RX.t 6)]⟩:=by kernel_rfl
theorem okf11:f11.ok=true:=by kernel_rfl
def R11:=PLift.up (ξ (uu f11.eq_1)<|ξ (vv f11r61.eq_1)<|ξ (uu f11b62.eq_1)<|ξ (vv f11r63.eq_1)<|ξ (uu f11b64.eq_1)<|ξ (vv f11r65.eq_1)<|ξ (uu f11b66.eq_1)<|ξ (vv f11r53.eq_1)<|ξ (uu f11b54.eq_1)<|ξ (vv f11r55.eq_1)<|ξ (vv f11r56.eq_1)<|ξ (uu f11b57.eq_1)<|ξ (vv f11r58.eq_1)<|ξ (uu f11b59.eq_1)<|ξ (uu f11b60.eq_1)<|ξ (vv f11r51.eq_1)<|ξ (uu f11b52.eq_1)<|ξ (vv f11r49.eq_1)<|ξ (uu f11b50.eq_1)<|ξ (vv f11r47.eq_1)<|ξ (uu f11b48.eq_1)<|ξ (vv f11r45.eq_1)<|ξ (uu f11b46.eq_1)<|ξ (vv f11r43.eq_1)<|ξ (uu f11b44.eq_1)<|ξ (vv f11r41.eq_1)<|ξ (uu f11b42.eq_1)<|ξ (vv f11r39.eq_1)<|ξ (uu f11b40.eq_1)<|ξ (vv f11r37.eq_1)<|ξ (uu f11b38.eq_1)<|ξ (vv f11r35.eq_1)<|ξ (uu f11b36.eq_1)<|ξ (vv f11r33.eq_1)<|ξ (uu f11b34.eq_1)<|ξ (vv f11r31.eq_1)<|ξ (uu f11b32.eq_1)<|ξ (vv f11r29.eq_1)<|ξ (uu f11b30.eq_1)<|ξ (vv f11r27.eq_1)<|ξ (uu f11b28.eq_1)<|ξ (vv f11r25.eq_1)<|ξ (uu f11b26.eq_1)<|ξ (vv f11r23.eq_1)<|ξ (uu f11b24.eq_1)<|ξ (vv f11r21.eq_1)<|ξ (uu f11b22.eq_1)<|ξ (vv f11r19.eq_1)<|ξ (uu f11b20.eq_1)<|ξ (vv f11r17.eq_1)<|ξ (uu f11b18.eq_1)<|ξ (vv f11r15.eq_1)<|ξ (uu f11b16.eq_1)<|ξ (vv f11r13.eq_1)<|ξ (uu f11b14.eq_1)<|ξ (vv f11r11.eq_1)<|ξ (uu f11b12.eq_1)<|ξ (vv f11r9.eq_1)<|ξ (uu f11b10.eq_1)<|ξ (vv f11r3.eq_1)<|ξ (uu f11b4.eq_1)<|ξ (uu f11b5.eq_1)<|ξ (vv f11r6.eq_1)<|ξ (uu f11b7.eq_1)<|ξ (uu f11b8.eq_1)<|ξ (vv f11r1.eq_1)<|uu f11b2.eq_1)
theorem Q11:type_of% R11.1:=R11.1
def f15r1:LA:=[θ 157 7,η (.bin 158 .add (.t 157) (.v (.k (.c (.str [115,105,103,110,101,100,32]))))),Γ 159 3 3,ψ 160 1 159,Γ 161 0 4,ψ 162 1 161,Ψ 163 3 160 162,Γ 164 0 163,ψ 165 1 164,yM 166 .add 158 165,η (.bin 167 .add (.t 166) (.v (.k (.c (.str [10]))))),θ 6 167]
def f15b2:AQ:=ζ f15r1 .ret
def f15r3:LA:=[θ 155 7,η (.bin 156 .add (.t 155) (.v (.k (.c (.str [119,105,116,104,111,117,116,32,112,114,111,116,101,115,116,10]))))),θ 7 156]
def f15b4:AQ:=.cond (.t 154) (.region f15r3) .skip
def f15r5:LA:=[Γ 151 13 4,ψ 152 1 151,η (.bin 153 .and (.t 152) (φ 2)),η (.bin 154 .neq (.t 153) (φ 0))]
def f15b6:AQ:=ζ f15r5 f15b4
def f15b7:AQ:=.seq f15b6 (.keep [3,4,7] [3,4] f15b2)
def f15r8:LA:=[θ 140 7,η (.bin 141 .add (.t 140) (.v (.k (.c (.str [105,110,32,110,101,101,100,32,97,115,107,32]))))),Γ 142 3 3,ψ 143 1 142,Γ 144 11 4,ψ 145 1 144,Ψ 146 3 143 145,Γ 147 0 146,ψ 148 1 147,yM 149 .add 141 148,η (.bin 150 .add (.t 149) (.v (.k (.c (.str [10]))))),θ 7 150]
def f15b9:AQ:=.cond (.t 139) (.region f15r8) .skip
def f15r10:LA:=[Γ 137 11 4,ψ 138 1 137,η (.bin 139 .neq (.t 138) (.v (.k (.c (.int .i64 (-1))))))]
def f15b11:AQ:=ζ f15r10 f15b9
def f15b12:AQ:=.seq f15b11 (.keep [3,4,7] [3,4] f15b7)
def f15r13:LA:=[θ 129 7,η (.bin 130 .add (.t 129) (.v (.k (.c (.str [117,110,108,101,115,115,32,112,97,114,116,32]))))),Γ 131 14 4,ψ 132 1 131,θ 133 2,Ξ 134 59 132 133,yM 135 .add 130 134,η (.bin 136 .add (.t 135) (.v (.k (.c (.str [32,119,97,115,32,112,97,105,100,10]))))),θ 7 136]
def f15b14:AQ:=.cond (.t 128) (.region f15r13) .skip
def f15r15:LA:=[Γ 126 14 4,ψ 127 1 126,η (.bin 128 .gtr (.t 127) (φ 1))]
def f15b16:AQ:=ζ f15r15 f15b14
def f15b17:AQ:=.seq f15b16 (.keep [3,4,7] [3,4] f15b12)
def f15r18:LA:=[θ 106 7,η (.bin 107 .add (.t 106) (.v (.k (.c (.str [10,116,111,32,98,101,32,112,97,105,100,32,98,121,32]))))),Γ 108 3 3,ψ 109 1 108,Γ 110 1 4,ψ 111 1 110,Ψ 112 3 109 111,Γ 113 0 112,ψ 114 1 113,yM 115 .add 107 114,η (.bin 116 .add (.t 115) (.v (.k (.c (.str [32,105,110,32]))))),Γ 117 1 3,ψ 118 1 117,Γ 119 10 4,ψ 120 1 119,Ψ 121 6 118 120,Γ 122 0 121,ψ 123 1 122,yM 124 .add 116 123,η (.bin 125 .add (.t 124) (.v (.k (.c (.str [10]))))),θ 7 125]
def f15b19:AQ:=.seq (.draw f15r18 [[],[0],[],[2],[],[4],[3,5],[6],[7],[1,8],[9],[],[11],[],[13],[12,14],[15],[16],[10,17],[18],[19,0,1,2,3,4,5,6,7,8,9,10,11,12,13,14,15,16,17,18,19]]) f15b17
def f15r20:LA:=[θ 99 7,η (.bin 100 .add (.t 99) (.v (.k (.c (.str [32,119,105,116,104,32,105,110,116,101,114,101,115,116,32,97,116,32]))))),Γ 101 12 4,ψ 102 1 101,Θ 103 56 102,yM 104 .add 100 103,η (.bin 105 .add (.t 104) (.v (.k (.c (.str [32,112,101,114,32,109,105,108,108,101]))))),θ 7 105]
def f15b21:AQ:=.cond (.t 98) (.region f15r20) .skip
def f15r22:LA:=[Γ 96 12 4,ψ 97 1 96,η (.bin 98 .gtr (.t 97) (φ 0))]
def f15b23:AQ:=ζ f15r22 f15b21
def f15b24:AQ:=.seq f15b23 (.keep [2,3,4,7] [3,4] f15b19)
def f15r25:LA:=[θ 83 7,Γ 84 3 4,ψ 85 1 84,Θ 86 56 85,yM 87 .add 83 86,η (.bin 88 .add (.t 87) (.v (.k (.c (.str [32]))))),Γ 89 0 3,ψ 90 1 89,Γ 91 4 4,ψ 92 1 91,Ψ 93 1 90 92,ψ 94 1 93,yM 95 .add 88 94,θ 7 95]
def f15b26:AQ:=.seq (.draw f15r25 [[],[],[1],[2],[0,3],[4],[],[6],[],[8],[7,9],[10],[5,11],[12,3,0,1,2,3,4,5,6,7,8,9,10,11,12]]) f15b24
def f15r27:LA:=[θ 55 7,η (.bin 56 .add (.t 55) (.v (.k (.c (.str [116,111,32,98,101,97,114,101,114,10]))))),θ 7 56]
def f15r28:LA:=[θ 61 7,η (.bin 62 .add (.t 61) (.v (.k (.c (.str [116,111,32]))))),Γ 63 3 3,ψ 64 1 63,Γ 65 2 4,ψ 66 1 65,Ψ 67 3 64 66,Γ 68 0 67,ψ 69 1 68,yM 70 .add 62 69,η (.bin 71 .add (.t 70) (.v (.k (.c (.str [32,110,111,116,32,116,111,32,111,114,100,101,114,10]))))),θ 7 71]
def f15r29:LA:=[θ 72 7,η (.bin 73 .add (.t 72) (.v (.k (.c (.str [116,111,32]))))),Γ 74 3 3,ψ 75 1 74,Γ 76 2 4,ψ 77 1 76,Ψ 78 3 75 77,Γ 79 0 78,ψ 80 1 79,yM 81 .add 73 80,η (.bin 82 .add (.t 81) (.v (.k (.c (.str [32,111,114,32,111,114,100,101,114,10]))))),θ 7 82]
def f15b30:AQ:=.cond (.t 60) (.region f15r28) (.region f15r29)
def f15r31:LA:=[Γ 57 13 4,ψ 58 1 57,η (.bin 59 .and (.t 58) (φ 4)),η (.bin 60 .neq (.t 59) (φ 0))]
def f15b32:AQ:=ζ f15r31 f15b30
def f15b33:AQ:=.cond (.t 54) (.region f15r27) f15b32
def f15r34:LA:=[Γ 52 2 4,ψ 53 1 52,η (.bin 54 .eql (.t 53) (.v (.k (.c (.int .i64 (-1))))))]
def f15b35:AQ:=ζ f15r34 f15b33
def f15b36:AQ:=.seq f15b35 (.keep [2,3,4,7] [3,4] f15b26)
def f15r37:LA:=[θ 23 7,θ 24 2,η (.bin 25 .add (.t 24) (φ 1)),Θ 26 56 25,yM 27 .add 23 26,η (.bin 28 .add (.t 27) (.v (.k (.c (.str [32,111,102,32]))))),Γ 29 14 4,ψ 30 1 29,Θ 31 56 30,yM 32 .add 28 31,η (.bin 33 .add (.t 32) (.v (.k (.c (.str [10,100,114,97,119,110,32,105,110,32]))))),Γ 34 1 3,ψ 35 1 34,Γ 36 9 4,ψ 37 1 36,Ψ 38 6 35 37,Γ 39 0 38,ψ 40 1 39,yM 41 .add 33 40,η (.bin 42 .add (.t 41) (.v (.k (.c (.str [32,111,110,32]))))),Γ 43 8 4,ψ 44 1 43,Θ 45 57 44,yM 46 .add 42 45,η (.bin 47 .add (.t 46) (.v (.k (.c (.str [10]))))),Γ 48 5 4,ω 49 3 48,Θ 50 58 49,yM 51 .add 47 50,θ 7 51]
def f15b38:AQ:=.seq (.draw f15r37 [[],[],[1],[2],[0,3],[4],[],[6],[7,3],[5,8],[9],[],[11],[],[13],[12,14],[15],[16],[10,17],[18],[],[20],[21,8],[19,22],[23],[],[25],[26,22],[24,27],[28,27,0,1,2,3,4,5,6,7,8,9,10,11,12,13,14,15,16,17,18,19,20,21,22,23,24,25,26,27,28]]) f15b36
def f15r39:LA:=[η (.mov 7 (.v (.k (.c (.str [98,105,108,108,32])))))]
def f15b40:AQ:=.cond (.t 22) (.region f15r39) .skip
def f15r41:LA:=[Γ 19 13 4,ψ 20 1 19,η (.bin 21 .and (.t 20) (φ 1)),η (.bin 22 .neq (.t 21) (φ 0))]
def f15b42:AQ:=ζ f15r41 f15b40
def f15b43:AQ:=.seq f15b42 (.keep [2,3,4,7] [3,4] f15b38)
def f15r44:LA:=[η (.mov 7 (.v (.k (.c (.str [112,97,112,101,114,32])))))]
def f15b45:AQ:=ζ f15r44 f15b43
def f15r46:LA:=[η (.mov 6 (.v (.k (.c (.str [])))))]
def f15b47:AQ:=ζ f15r46 .ret
def f15b48:AQ:=.cond (.t 18) f15b47 .skip
def f15r49:LA:=[ω 8 8 3,ω 9 15 4,Ξ 10 13 8 9,η (.bin 11 .neq (.t 10) (φ 0)),θ 12 11,iR 12 (.mov 13 (.t 2)),iR 12 (.faddr 14 14 (.t 4)),iR 12 (.load 15 1 false (.t 14)),iR 12 (.call (some 16) 42 [(.t 13),(.t 15)]),iR 12 (.un 17 .not (.t 16)),η (.pick 18 (.t 12) (χ true) (.t 17))]
def f15b50:AQ:=ζ f15r49 f15b48
def f15b51:AQ:=.seq f15b50 f15b45
def f15r52:LA:=[zX 3 31 0,zX 4 35 1,η (.mov 6 (.v (.k (.c (.str [])))))]
def f15b53:AQ:=ζ f15r52 (.frz 4 (.frz 3 f15b51))
def f15:AQ:=f15b53
theorem hf15:zH Tryz.prog 15=some ⟨168,f15.erase,[(RX.t 6)]⟩:=by kernel_rfl
theorem okf15:f15.ok=true:=by kernel_rfl
def R15:=PLift.up (ξ (vv f15r1.eq_1)<|ξ (vv f15r3.eq_1)<|ξ (uu f15b4.eq_1)<|ξ (vv f15r5.eq_1)<|ξ (uu f15b6.eq_1)<|ξ (vv f15r8.eq_1)<|ξ (uu f15b9.eq_1)<|ξ (vv f15r10.eq_1)<|ξ (uu f15b11.eq_1)<|ξ (vv f15r13.eq_1)<|ξ (uu f15b14.eq_1)<|ξ (vv f15r15.eq_1)<|ξ (uu f15b16.eq_1)<|ξ (uu f15b17.eq_1)<|ξ (vv f15r18.eq_1)<|ξ (vv f15r25.eq_1)<|ξ (vv f15r20.eq_1)<|ξ (uu f15b21.eq_1)<|ξ (vv f15r22.eq_1)<|ξ (uu f15b23.eq_1)<|ξ (uu f15b24.eq_1)<|ξ (vv f15r37.eq_1)<|ξ (vv f15r27.eq_1)<|ξ (uu f15b33.eq_1)<|ξ (vv f15r34.eq_1)<|ξ (uu f15b35.eq_1)<|ξ (uu f15b36.eq_1)<|ξ (vv f15r28.eq_1)<|ξ (vv f15r29.eq_1)<|ξ (uu f15b30.eq_1)<|ξ (vv f15r31.eq_1)<|ξ (uu f15b32.eq_1)<|ξ (uu f15.eq_1)<|ξ (vv f15r49.eq_1)<|ξ (uu f15b50.eq_1)<|ξ (uu f15b51.eq_1)<|ξ (vv f15r52.eq_1)<|ξ (uu f15b53.eq_1)<|ξ (vv f15r39.eq_1)<|ξ (uu f15b40.eq_1)<|ξ (vv f15r41.eq_1)<|ξ (uu f15b42.eq_1)<|ξ (uu f15b43.eq_1)<|ξ (vv f15r44.eq_1)<|ξ (uu f15b45.eq_1)<|ξ (uu f15b48.eq_1)<|ξ (vv f15r46.eq_1)<|uu f15b47.eq_1)
theorem Q15:type_of% R15.1:=R15.1
def f56r1:LA:=[θ 6 3,θ 7 3,η (.lenS 8 (.t 7)),η (.bin 9 .sub (.t 8) (φ 1)),η (.slstr 10 (.t 6) none (some (.t 9))),θ 2 10]
def f56b2:AQ:=ζ f56r1 .ret
def f56r3:LA:=[θ 4 0,Θ 5 94 4,θ 3 5]
def f56b4:AQ:=ζ f56r3 f56b2
def f56r5:LA:=[η (.mov 2 (.v (.k (.c (.str [])))))]
def f56b6:AQ:=ζ f56r5 f56b4
def f56:AQ:=f56b6
theorem hf56:zH Tryz.prog 56=some ⟨11,f56.erase,[(RX.t 2)]⟩:=by kernel_rfl
theorem okf56:f56.ok=true:=by kernel_rfl
def R56:=PLift.up (ξ (uu f56.eq_1)<|ξ (vv f56r3.eq_1)<|ξ (uu f56b4.eq_1)<|ξ (vv f56r5.eq_1)<|ξ (uu f56b6.eq_1)<|ξ (vv f56r1.eq_1)<|uu f56b2.eq_1)
theorem Q56:type_of% R56.1:=R56.1
def f57r1:LA:=[θ 14 3,Θ 15 56 14,η (.bin 16 .add (.t 15) (.v (.k (.c (.str [45]))))),θ 17 4,Θ 18 56 17,yM 19 .add 16 18,η (.bin 20 .add (.t 19) (.v (.k (.c (.str [45]))))),θ 21 5,Θ 22 56 21,yM 23 .add 20 22,θ 2 23]
def f57b2:AQ:=ζ f57r1 .ret
def f57r3:LA:=[θ 8 0,Θ 9 95 8,θ 7 9,Δ 10 7 0,Δ 11 7 1,Δ 12 7 2,Δ 13 7 3,θ 3 10,θ 4 11,θ 5 12,θ 6 13]
def f57b4:AQ:=ζ f57r3 f57b2
def f57r5:LA:=[η (.mov 2 (.v (.k (.c (.str [])))))]
def f57b6:AQ:=ζ f57r5 f57b4
def f57:AQ:=f57b6
theorem hf57:zH Tryz.prog 57=some ⟨24,f57.erase,[(RX.t 2)]⟩:=by kernel_rfl
theorem okf57:f57.ok=true:=by kernel_rfl
def R57:=PLift.up (ξ (uu f57.eq_1)<|ξ (vv f57r3.eq_1)<|ξ (uu f57b4.eq_1)<|ξ (vv f57r5.eq_1)<|ξ (uu f57b6.eq_1)<|ξ (vv f57r1.eq_1)<|uu f57b2.eq_1)
theorem Q57:type_of% R57.1:=R57.1
def f58r1:LA:=[θ 34 3,η (.bin 35 .add (.t 34) (.v (.k (.c (.str [115,105,103,104,116,10]))))),θ 2 35]
def f58b2:AQ:=ζ f58r1 .ret
def f58r3:LA:=[θ 32 3,η (.bin 33 .add (.t 32) (.v (.k (.c (.str [100,97,116,101,10]))))),θ 2 33]
def f58b4:AQ:=ζ f58r3 .ret
def f58b5:AQ:=.cond (.t 31) f58b4 .skip
def f58r6:LA:=[Γ 29 0 1,ψ 30 1 29,η (.bin 31 .eql (.t 30) (φ 2))]
def f58b7:AQ:=ζ f58r6 f58b5
def f58b8:AQ:=.seq f58b7 f58b2
def f58r9:LA:=[θ 25 3,η (.bin 26 .add (.t 25) (.v (.k (.c (.str [32,109,111,110,116,104,115,32,97,102,116,101,114,32]))))),θ 3 26]
def f58r10:LA:=[θ 27 3,η (.bin 28 .add (.t 27) (.v (.k (.c (.str [32,100,97,121,115,32,97,102,116,101,114,32]))))),θ 3 28]
def f58b11:AQ:=.cond (.t 24) (.region f58r9) (.region f58r10)
def f58r12:LA:=[Γ 22 2 1,ψ 23 1 22,η (.bin 24 .eql (.t 23) (φ 1))]
def f58b13:AQ:=ζ f58r12 f58b11
def f58b14:AQ:=.seq f58b13 f58b8
def f58r15:LA:=[Γ 18 1 1,ψ 19 1 18,Θ 20 56 19,η (.bin 21 .add (.v (.k (.c (.str [112,97,121,32])))) (.t 20)),θ 3 21]
def f58b16:AQ:=ζ f58r15 f58b14
def f58r17:LA:=[η (.mov 2 (.v (.k (.c (.str [112,97,121,32,97,116,32,117,115,97,110,99,101,10])))))]
def f58b18:AQ:=ζ f58r17 .ret
def f58b19:AQ:=.cond (.t 17) f58b18 .skip
def f58r20:LA:=[Γ 15 0 1,ψ 16 1 15,η (.bin 17 .eql (.t 16) (φ 4))]
def f58b21:AQ:=ζ f58r20 f58b19
def f58b22:AQ:=.seq f58b21 f58b16
def f58r23:LA:=[Γ 10 1 1,ψ 11 1 10,Θ 12 57 11,η (.bin 13 .add (.v (.k (.c (.str [112,97,121,32,111,110,32])))) (.t 12)),η (.bin 14 .add (.t 13) (.v (.k (.c (.str [10]))))),θ 2 14]
def f58b24:AQ:=ζ f58r23 .ret
def f58b25:AQ:=.cond (.t 9) f58b24 .skip
def f58r26:LA:=[Γ 7 0 1,ψ 8 1 7,η (.bin 9 .eql (.t 8) (φ 3))]
def f58b27:AQ:=ζ f58r26 f58b25
def f58b28:AQ:=.seq f58b27 f58b22
def f58r29:LA:=[η (.mov 2 (.v (.k (.c (.str [112,97,121,32,97,116,32,115,105,103,104,116,10])))))]
def f58b30:AQ:=ζ f58r29 .ret
def f58b31:AQ:=.cond (.t 6) f58b30 .skip
def f58r32:LA:=[Γ 4 0 1,ψ 5 1 4,η (.bin 6 .eql (.t 5) (φ 0))]
def f58b33:AQ:=ζ f58r32 f58b31
def f58b34:AQ:=.seq f58b33 f58b28
def f58r35:LA:=[zX 1 33 0,η (.mov 2 (.v (.k (.c (.str [])))))]
def f58b36:AQ:=ζ f58r35 f58b34
def f58:AQ:=f58b36
theorem hf58:zH Tryz.prog 58=some ⟨36,f58.erase,[(RX.t 2)]⟩:=by kernel_rfl
theorem okf58:f58.ok=true:=by kernel_rfl
def R58:=PLift.up (ξ (uu f58.eq_1)<|ξ (vv f58r29.eq_1)<|ξ (uu f58b30.eq_1)<|ξ (uu f58b31.eq_1)<|ξ (vv f58r32.eq_1)<|ξ (uu f58b33.eq_1)<|ξ (uu f58b34.eq_1)<|ξ (vv f58r35.eq_1)<|ξ (uu f58b36.eq_1)<|ξ (vv f58r17.eq_1)<|ξ (uu f58b18.eq_1)<|ξ (uu f58b19.eq_1)<|ξ (vv f58r20.eq_1)<|ξ (uu f58b21.eq_1)<|ξ (uu f58b22.eq_1)<|ξ (uu f58b25.eq_1)<|ξ (vv f58r26.eq_1)<|ξ (uu f58b27.eq_1)<|ξ (uu f58b28.eq_1)<|ξ (vv f58r15.eq_1)<|ξ (uu f58b16.eq_1)<|ξ (vv f58r1.eq_1)<|ξ (uu f58b2.eq_1)<|ξ (vv f58r3.eq_1)<|ξ (uu f58b4.eq_1)<|ξ (uu f58b5.eq_1)<|ξ (vv f58r6.eq_1)<|ξ (uu f58b7.eq_1)<|ξ (uu f58b8.eq_1)<|ξ (vv f58r9.eq_1)<|ξ (vv f58r10.eq_1)<|ξ (uu f58b11.eq_1)<|ξ (vv f58r12.eq_1)<|ξ (uu f58b13.eq_1)<|ξ (uu f58b14.eq_1)<|ξ (vv f58r23.eq_1)<|uu f58b24.eq_1)
theorem Q58:type_of% R58.1:=R58.1
def f59r1:LA:=[θ 29 5,θ 4 29]
def f59b2:AQ:=ζ f59r1 .ret
def f59r3:LA:=[θ 10 6,η (.bin 11 .add (.t 10) (φ 1)),θ 6 11]
def f59r4:LA:=[θ 24 5,θ 25 6,η (.bin 26 .add (.t 25) (φ 1)),Θ 27 56 26,yM 28 .add 24 27,θ 5 28]
def f59b5:AQ:=.cond (.t 23) (.region f59r4) .skip
def f59r6:LA:=[θ 21 6,θ 22 1,yM 23 .neq 21 22]
def f59b7:AQ:=ζ f59r6 f59b5
def f59r8:LA:=[θ 19 5,η (.bin 20 .add (.t 19) (.v (.k (.c (.str [32,111,114,32]))))),θ 5 20]
def f59b9:AQ:=.cond (.t 18) (.region f59r8) .skip
def f59r10:LA:=[θ 12 6,θ 13 1,yM 14 .neq 12 13,θ 15 14,qA 15 (.mov 16 (.t 5)),qA 15 (.bin 17 .neq (.t 16) (.v (.k (.c (.str []))))),η (.pick 18 (.t 15) (.t 17) (χ false))]
def f59b11:AQ:=ζ f59r10 f59b9
def f59b12:AQ:=.seq f59b11 f59b7
def f59b13:AQ:=.block 1 f59b12
def f59b14:AQ:=.seq f59b13 (.region f59r3)
def f59b15:AQ:=.cond (.t 9) .skip (.exit 0)
def f59r16:LA:=[θ 7 6,θ 8 0,yM 9 .lss 7 8]
def f59b17:AQ:=ζ f59r16 f59b15
def f59b18:AQ:=.seq f59b17 f59b14
def f59l19:AQ:=.loop [0,1,5,6] [] f59b18
def f59b20:AQ:=.block 0 f59l19
def f59r21:LA:=[η (.mov 6 (φ 0))]
def f59b22:AQ:=ζ f59r21 f59b20
def f59b23:AQ:=.seq f59b22 f59b2
def f59r24:LA:=[η (.mov 5 (.v (.k (.c (.str [])))))]
def f59b25:AQ:=ζ f59r24 f59b23
def f59r26:LA:=[η (.mov 4 (.v (.k (.c (.str [])))))]
def f59b27:AQ:=ζ f59r26 f59b25
def f59:AQ:=f59b27
theorem hf59:zH Tryz.prog 59=some ⟨30,f59.erase,[(RX.t 4)]⟩:=by kernel_rfl
theorem okf59:f59.ok=true:=by kernel_rfl
def R59:=PLift.up (ξ (uu f59.eq_1)<|ξ (uu f59b20.eq_1)<|ξ (vv f59r21.eq_1)<|ξ (uu f59b22.eq_1)<|ξ (uu f59b23.eq_1)<|ξ (vv f59r24.eq_1)<|ξ (uu f59b25.eq_1)<|ξ (vv f59r26.eq_1)<|ξ (uu f59b27.eq_1)<|ξ (vv f59r3.eq_1)<|ξ (vv f59r4.eq_1)<|ξ (uu f59b5.eq_1)<|ξ (vv f59r6.eq_1)<|ξ (uu f59b7.eq_1)<|ξ (vv f59r8.eq_1)<|ξ (uu f59b9.eq_1)<|ξ (vv f59r10.eq_1)<|ξ (uu f59b11.eq_1)<|ξ (uu f59b12.eq_1)<|ξ (uu f59b13.eq_1)<|ξ (uu f59b14.eq_1)<|ξ (uu f59b15.eq_1)<|ξ (vv f59r16.eq_1)<|ξ (uu f59b17.eq_1)<|ξ (uu f59b18.eq_1)<|ξ (vv f59r1.eq_1)<|uu f59b2.eq_1)
theorem Q59:type_of% R59.1:=R59.1
def f94r1:LA:=[θ 34 3,θ 2 34]
def f94b2:AQ:=ζ f94r1 .ret
def f94r3:LA:=[θ 32 3,η (.bin 33 .add (.v (.k (.c (.str [45])))) (.t 32)),θ 3 33]
def f94b4:AQ:=.cond (.t 31) (.region f94r3) .skip
def f94r5:LA:=[θ 30 0,η (.bin 31 .lss (.t 30) (φ 0))]
def f94b6:AQ:=ζ f94r5 f94b4
def f94b7:AQ:=.seq f94b6 f94b2
def f94r8:LA:=[θ 14 5,η (.bin 15 .add (.t 14) (φ 1)),θ 5 15]
def f94r9:LA:=[θ 28 4,η (.bin 29 .quo (.t 28) (φ 10)),θ 4 29]
def f94r10:LA:=[θ 22 6,θ 23 6,η (.bin 24 .add (.t 23) (φ 1)),η (.slstr 25 (.v (.k (.c (.str [48,49,50,51,52,53,54,55,56,57])))) (some (.t 22)) (some (.t 24))),θ 26 3,yM 27 .add 25 26,θ 3 27]
def f94b11:AQ:=ζ f94r10 (.region f94r9)
def f94r12:LA:=[θ 20 6,η (.un 21 .neg (.t 20)),θ 6 21]
def f94b13:AQ:=.cond (.t 19) (.region f94r12) .skip
def f94r14:LA:=[θ 18 6,η (.bin 19 .lss (.t 18) (φ 0))]
def f94b15:AQ:=ζ f94r14 f94b13
def f94b16:AQ:=.seq f94b15 f94b11
def f94r17:LA:=[θ 16 4,η (.bin 17 .rem (.t 16) (φ 10)),θ 6 17]
def f94b18:AQ:=ζ f94r17 f94b16
def f94b19:AQ:=.block 1 f94b18
def f94b20:AQ:=.seq f94b19 (.region f94r8)
def f94b21:AQ:=.cond (.t 13) .skip (.exit 0)
def f94r22:LA:=[θ 8 5,η (.bin 9 .eql (.t 8) (φ 0)),θ 10 9,iR 10 (.mov 11 (.t 4)),iR 10 (.bin 12 .neq (.t 11) (φ 0)),η (.pick 13 (.t 10) (χ true) (.t 12))]
def f94b23:AQ:=ζ f94r22 f94b21
def f94b24:AQ:=.seq f94b23 f94b20
def f94l25:AQ:=.loop [0,3,4,5] [] f94b24
def f94b26:AQ:=.block 0 f94l25
def f94r27:LA:=[η (.mov 5 (φ 0))]
def f94b28:AQ:=ζ f94r27 f94b26
def f94b29:AQ:=.seq f94b28 f94b7
def f94r30:LA:=[θ 7 0,θ 4 7]
def f94b31:AQ:=ζ f94r30 f94b29
def f94r32:LA:=[η (.mov 3 (.v (.k (.c (.str [59])))))]
def f94b33:AQ:=ζ f94r32 f94b31
def f94r34:LA:=[η (.mov 2 (.v (.k (.c (.str [])))))]
def f94b35:AQ:=ζ f94r34 f94b33
def f94:AQ:=f94b35
theorem hf94:zH Tryz.prog 94=some ⟨35,f94.erase,[(RX.t 2)]⟩:=by kernel_rfl
theorem okf94:f94.ok=true:=by kernel_rfl
def R94:=PLift.up (ξ (uu f94.eq_1)<|ξ (uu f94b26.eq_1)<|ξ (vv f94r27.eq_1)<|ξ (uu f94b28.eq_1)<|ξ (uu f94b29.eq_1)<|ξ (vv f94r30.eq_1)<|ξ (uu f94b31.eq_1)<|ξ (vv f94r32.eq_1)<|ξ (uu f94b33.eq_1)<|ξ (vv f94r34.eq_1)<|ξ (uu f94b35.eq_1)<|ξ (vv f94r8.eq_1)<|ξ (vv f94r9.eq_1)<|ξ (vv f94r10.eq_1)<|ξ (uu f94b11.eq_1)<|ξ (vv f94r12.eq_1)<|ξ (uu f94b13.eq_1)<|ξ (vv f94r14.eq_1)<|ξ (uu f94b15.eq_1)<|ξ (uu f94b16.eq_1)<|ξ (vv f94r17.eq_1)<|ξ (uu f94b18.eq_1)<|ξ (uu f94b19.eq_1)<|ξ (uu f94b20.eq_1)<|ξ (uu f94b21.eq_1)<|ξ (vv f94r22.eq_1)<|ξ (uu f94b23.eq_1)<|ξ (uu f94b24.eq_1)<|ξ (vv f94r1.eq_1)<|ξ (uu f94b2.eq_1)<|ξ (vv f94r3.eq_1)<|ξ (uu f94b4.eq_1)<|ξ (vv f94r5.eq_1)<|ξ (uu f94b6.eq_1)<|uu f94b7.eq_1)
theorem Q94:type_of% R94.1:=R94.1
def f95r1:LA:=[θ 35 6,θ 36 8,θ 37 7,η (.bin 38 .add (.t 37) (φ 1)),θ 2 35,θ 3 36,θ 4 38,η (.mov 5 (φ 0))]
def f95b2:AQ:=ζ f95r1 .ret
def f95r3:LA:=[θ 33 8,η (.bin 34 .add (.t 33) (φ 1)),θ 8 34]
def f95r4:LA:=[θ 28 7,θ 29 6,θ 30 8,Ξ 31 106 29 30,yM 32 .sub 28 31,θ 7 32]
def f95b5:AQ:=ζ f95r4 (.region f95r3)
def f95b6:AQ:=.block 3 f95b5
def f95b7:AQ:=.cond (.t 27) .skip (.exit 2)
def f95r8:LA:=[θ 23 7,θ 24 6,θ 25 8,Ξ 26 106 24 25,yM 27 .geq 23 26]
def f95b9:AQ:=ζ f95r8 f95b7
def f95b10:AQ:=.seq f95b9 f95b6
def f95l11:AQ:=.loop [6,7,8] [] f95b10
def f95b12:AQ:=.block 2 f95l11
def f95b13:AQ:=.seq f95b12 f95b2
def f95r14:LA:=[η (.mov 8 (φ 1))]
def f95b15:AQ:=ζ f95r14 f95b13
def f95r16:LA:=[θ 21 6,η (.bin 22 .add (.t 21) (φ 1)),θ 6 22]
def f95r17:LA:=[θ 17 7,θ 18 6,Θ 19 107 18,yM 20 .sub 17 19,θ 7 20]
def f95b18:AQ:=ζ f95r17 (.region f95r16)
def f95b19:AQ:=.block 1 f95b18
def f95b20:AQ:=.cond (.t 16) .skip (.exit 0)
def f95r21:LA:=[θ 13 7,θ 14 6,Θ 15 107 14,yM 16 .geq 13 15]
def f95b22:AQ:=ζ f95r21 f95b20
def f95b23:AQ:=.seq f95b22 f95b19
def f95l24:AQ:=.loop [6,7] [] f95b23
def f95b25:AQ:=.block 0 f95l24
def f95b26:AQ:=.seq f95b25 f95b15
def f95r27:LA:=[θ 12 0,θ 7 12]
def f95b28:AQ:=ζ f95r27 f95b26
def f95r29:LA:=[η (.mov 6 (φ 2000))]
def f95b30:AQ:=ζ f95r29 f95b28
def f95r31:LA:=[η (.mov 2 (φ 0)),η (.mov 3 (φ 0)),η (.mov 4 (φ 0)),η (.mov 5 (φ 3))]
def f95b32:AQ:=ζ f95r31 .ret
def f95b33:AQ:=.cond (.t 11) f95b32 .skip
def f95r34:LA:=[θ 9 0,Θ 10 44 9,η (.un 11 .not (.t 10))]
def f95b35:AQ:=ζ f95r34 f95b33
def f95b36:AQ:=.seq f95b35 f95b30
def f95r37:LA:=[η (.mov 2 (φ 0)),η (.mov 3 (φ 0)),η (.mov 4 (φ 0)),η (.mov 5 (φ 0))]
def f95b38:AQ:=ζ f95r37 f95b36
def f95:AQ:=f95b38
theorem hf95:zH Tryz.prog 95=some ⟨39,f95.erase,[(RX.t 2),(RX.t 3),(RX.t 4),(RX.t 5)]⟩:=by kernel_rfl
theorem okf95:f95.ok=true:=by kernel_rfl
def R95:=PLift.up (ξ (uu f95.eq_1)<|ξ (vv f95r34.eq_1)<|ξ (uu f95b35.eq_1)<|ξ (uu f95b36.eq_1)<|ξ (vv f95r37.eq_1)<|ξ (uu f95b38.eq_1)<|ξ (uu f95b25.eq_1)<|ξ (uu f95b26.eq_1)<|ξ (vv f95r27.eq_1)<|ξ (uu f95b28.eq_1)<|ξ (vv f95r29.eq_1)<|ξ (uu f95b30.eq_1)<|ξ (uu f95b33.eq_1)<|ξ (vv f95r21.eq_1)<|ξ (uu f95b22.eq_1)<|ξ (uu f95b23.eq_1)<|ξ (vv f95r16.eq_1)<|ξ (vv f95r17.eq_1)<|ξ (uu f95b18.eq_1)<|ξ (uu f95b19.eq_1)<|ξ (uu f95b20.eq_1)<|ξ (uu f95b12.eq_1)<|ξ (uu f95b13.eq_1)<|ξ (vv f95r14.eq_1)<|ξ (uu f95b15.eq_1)<|ξ (vv f95r8.eq_1)<|ξ (uu f95b9.eq_1)<|ξ (uu f95b10.eq_1)<|ξ (vv f95r3.eq_1)<|ξ (vv f95r4.eq_1)<|ξ (uu f95b5.eq_1)<|ξ (uu f95b6.eq_1)<|ξ (uu f95b7.eq_1)<|ξ (vv f95r1.eq_1)<|uu f95b2.eq_1)
theorem Q95:type_of% R95.1:=R95.1
def f106r1:LA:=[η (.mov 4 (φ 31))]
def f106b2:AQ:=ζ f106r1 .ret
def f106r3:LA:=[η (.mov 4 (φ 30))]
def f106b4:AQ:=ζ f106r3 .ret
def f106b5:AQ:=.cond (.t 26) f106b4 .skip
def f106r6:LA:=[θ 13 1,η (.bin 14 .eql (.t 13) (φ 4)),θ 15 14,iR 15 (.mov 16 (.t 1)),iR 15 (.bin 17 .eql (.t 16) (φ 6)),η (.pick 18 (.t 15) (χ true) (.t 17)),θ 19 18,iR 19 (.mov 20 (.t 1)),iR 19 (.bin 21 .eql (.t 20) (φ 9)),η (.pick 22 (.t 19) (χ true) (.t 21)),θ 23 22,iR 23 (.mov 24 (.t 1)),iR 23 (.bin 25 .eql (.t 24) (φ 11)),η (.pick 26 (.t 23) (χ true) (.t 25))]
def f106b7:AQ:=ζ f106r6 f106b5
def f106b8:AQ:=.seq f106b7 f106b2
def f106r9:LA:=[η (.mov 4 (φ 28))]
def f106b10:AQ:=ζ f106r9 .ret
def f106b11:AQ:=.cond (.t 12) f106b10 .skip
def f106r12:LA:=[θ 11 1,η (.bin 12 .eql (.t 11) (φ 2))]
def f106b13:AQ:=ζ f106r12 f106b11
def f106b14:AQ:=.seq f106b13 f106b8
def f106r15:LA:=[η (.mov 4 (φ 29))]
def f106b16:AQ:=ζ f106r15 .ret
def f106b17:AQ:=.cond (.t 10) f106b16 .skip
def f106r18:LA:=[θ 5 1,η (.bin 6 .eql (.t 5) (φ 2)),θ 7 6,qA 7 (.mov 8 (.t 0)),qA 7 (.call (some 9) 128 [(.t 8)]),η (.pick 10 (.t 7) (.t 9) (χ false))]
def f106b19:AQ:=ζ f106r18 f106b17
def f106b20:AQ:=.seq f106b19 f106b14
def f106r21:LA:=[η (.mov 4 (φ 0))]
def f106b22:AQ:=ζ f106r21 f106b20
def f106:AQ:=f106b22
theorem hf106:zH Tryz.prog 106=some ⟨27,f106.erase,[(RX.t 4)]⟩:=by kernel_rfl
theorem okf106:f106.ok=true:=by kernel_rfl
def R106:=PLift.up (ξ (uu f106.eq_1)<|ξ (vv f106r18.eq_1)<|ξ (uu f106b19.eq_1)<|ξ (uu f106b20.eq_1)<|ξ (vv f106r21.eq_1)<|ξ (uu f106b22.eq_1)<|ξ (vv f106r15.eq_1)<|ξ (uu f106b16.eq_1)<|ξ (uu f106b17.eq_1)<|ξ (vv f106r9.eq_1)<|ξ (uu f106b10.eq_1)<|ξ (uu f106b11.eq_1)<|ξ (vv f106r12.eq_1)<|ξ (uu f106b13.eq_1)<|ξ (uu f106b14.eq_1)<|ξ (vv f106r3.eq_1)<|ξ (uu f106b4.eq_1)<|ξ (uu f106b5.eq_1)<|ξ (vv f106r6.eq_1)<|ξ (uu f106b7.eq_1)<|ξ (uu f106b8.eq_1)<|ξ (vv f106r1.eq_1)<|uu f106b2.eq_1)
theorem Q106:type_of% R106.1:=R106.1
def f107r1:LA:=[η (.mov 2 (φ 365))]
def f107b2:AQ:=ζ f107r1 .ret
def f107r3:LA:=[η (.mov 2 (φ 366))]
def f107b4:AQ:=ζ f107r3 .ret
def f107b5:AQ:=.cond (.t 4) f107b4 .skip
def f107r6:LA:=[θ 3 0,Θ 4 128 3]
def f107b7:AQ:=ζ f107r6 f107b5
def f107b8:AQ:=.seq f107b7 f107b2
def f107r9:LA:=[η (.mov 2 (φ 0))]
def f107b10:AQ:=ζ f107r9 f107b8
def f107:AQ:=f107b10
theorem hf107:zH Tryz.prog 107=some ⟨5,f107.erase,[(RX.t 2)]⟩:=by kernel_rfl
theorem okf107:f107.ok=true:=by kernel_rfl
def R107:=PLift.up (ξ (uu f107.eq_1)<|ξ (vv f107r6.eq_1)<|ξ (uu f107b7.eq_1)<|ξ (uu f107b8.eq_1)<|ξ (vv f107r9.eq_1)<|ξ (uu f107b10.eq_1)<|ξ (vv f107r3.eq_1)<|ξ (uu f107b4.eq_1)<|ξ (uu f107b5.eq_1)<|ξ (vv f107r1.eq_1)<|uu f107b2.eq_1)
theorem Q107:type_of% R107.1:=R107.1
def f128r1:LA:=[θ 3 0,η (.bin 4 .rem (.t 3) (φ 4)),η (.bin 5 .eql (.t 4) (φ 0)),θ 6 5,qA 6 (.mov 7 (.t 0)),qA 6 (.bin 8 .rem (.t 7) (φ 100)),qA 6 (.bin 9 .neq (.t 8) (φ 0)),qA 6 (.mov 10 (.t 9)),iR 10 (.mov 11 (.t 0)),iR 10 (.bin 12 .rem (.t 11) (φ 400)),iR 10 (.bin 13 .eql (.t 12) (φ 0)),qA 6 (.pick 14 (.t 10) (χ true) (.t 13)),η (.pick 15 (.t 6) (.t 14) (χ false)),θ 2 15]
def f128b2:AQ:=ζ f128r1 .ret
def f128r3:LA:=[η (.mov 2 (χ false))]
def f128b4:AQ:=ζ f128r3 f128b2
def f128:AQ:=f128b4
theorem hf128:zH Tryz.prog 128=some ⟨16,f128.erase,[(RX.t 2)]⟩:=by kernel_rfl
theorem okf128:f128.ok=true:=by kernel_rfl
def R128:=PLift.up (ξ (uu f128.eq_1)<|ξ (vv f128r1.eq_1)<|ξ (uu f128b2.eq_1)<|ξ (vv f128r3.eq_1)<|uu f128b4.eq_1)
theorem Q128:type_of% R128.1:=R128.1
def f73r1:LA:=[θ 60 8,θ 6 60,η (.mov 7 (φ 0))]
def f73b2:AQ:=ζ f73r1 .ret
def f73r3:LA:=[η (.mov 6 (φ 0)),η (.mov 7 (φ 3))]
def f73b4:AQ:=ζ f73r3 .ret
def f73b5:AQ:=.cond (.t 59) f73b4 .skip
def f73r6:LA:=[θ 57 8,Θ 58 44 57,η (.un 59 .not (.t 58))]
def f73b7:AQ:=ζ f73r6 f73b5
def f73b8:AQ:=.seq f73b7 f73b2
def f73r9:LA:=[θ 50 10,η (.bin 51 .add (.t 50) (φ 1)),θ 10 51]
def f73r10:LA:=[θ 52 8,θ 53 0,θ 54 10,Ξ 55 106 53 54,yM 56 .add 52 55,θ 8 56]
def f73b11:AQ:=.block 3 (.region f73r10)
def f73b12:AQ:=.seq f73b11 (.region f73r9)
def f73b13:AQ:=.cond (.t 49) .skip (.exit 2)
def f73r14:LA:=[θ 47 10,θ 48 1,yM 49 .lss 47 48]
def f73b15:AQ:=ζ f73r14 f73b13
def f73b16:AQ:=.seq f73b15 f73b12
def f73l17:AQ:=.loop [0,1,8,10] [] f73b16
def f73b18:AQ:=.block 2 f73l17
def f73r19:LA:=[η (.mov 10 (φ 1))]
def f73b20:AQ:=ζ f73r19 f73b18
def f73b21:AQ:=.seq f73b20 f73b8
def f73r22:LA:=[θ 41 9,η (.bin 42 .add (.t 41) (φ 1)),θ 9 42]
def f73r23:LA:=[θ 43 8,θ 44 9,Θ 45 107 44,yM 46 .add 43 45,θ 8 46]
def f73b24:AQ:=.block 1 (.region f73r23)
def f73b25:AQ:=.seq f73b24 (.region f73r22)
def f73b26:AQ:=.cond (.t 40) .skip (.exit 0)
def f73r27:LA:=[θ 38 9,θ 39 0,yM 40 .lss 38 39]
def f73b28:AQ:=ζ f73r27 f73b26
def f73b29:AQ:=.seq f73b28 f73b25
def f73l30:AQ:=.loop [0,1,8,9] [] f73b29
def f73b31:AQ:=.block 0 f73l30
def f73r32:LA:=[η (.mov 9 (φ 2000))]
def f73b33:AQ:=ζ f73r32 f73b31
def f73b34:AQ:=.seq f73b33 f73b21
def f73r35:LA:=[θ 36 2,η (.bin 37 .sub (.t 36) (φ 1)),θ 8 37]
def f73b36:AQ:=ζ f73r35 f73b34
def f73r37:LA:=[η (.mov 6 (φ 0)),η (.mov 7 (φ 3))]
def f73b38:AQ:=ζ f73r37 .ret
def f73b39:AQ:=.cond (.t 35) f73b38 .skip
def f73r40:LA:=[θ 11 0,η (.bin 12 .lss (.t 11) (φ 2000)),θ 13 12,iR 13 (.mov 14 (.t 0)),iR 13 (.bin 15 .gtr (.t 14) (φ 2300)),η (.pick 16 (.t 13) (χ true) (.t 15)),θ 17 16,iR 17 (.mov 18 (.t 1)),iR 17 (.bin 19 .lss (.t 18) (φ 1)),η (.pick 20 (.t 17) (χ true) (.t 19)),θ 21 20,iR 21 (.mov 22 (.t 1)),iR 21 (.bin 23 .gtr (.t 22) (φ 12)),η (.pick 24 (.t 21) (χ true) (.t 23)),θ 25 24,iR 25 (.mov 26 (.t 2)),iR 25 (.bin 27 .lss (.t 26) (φ 1)),η (.pick 28 (.t 25) (χ true) (.t 27)),θ 29 28,iR 29 (.mov 30 (.t 2)),iR 29 (.mov 31 (.t 0)),iR 29 (.mov 32 (.t 1)),iR 29 (.call (some 33) 106 [(.t 31),(.t 32)]),iR 29 (.bin 34 .gtr (.t 30) (.t 33)),η (.pick 35 (.t 29) (χ true) (.t 34))]
def f73b41:AQ:=ζ f73r40 f73b39
def f73b42:AQ:=.seq f73b41 f73b36
def f73r43:LA:=[η (.mov 6 (φ 0)),η (.mov 7 (φ 0))]
def f73b44:AQ:=ζ f73r43 f73b42
def f73:AQ:=f73b44
theorem hf73:zH Tryz.prog 73=some ⟨61,f73.erase,[(RX.t 6),(RX.t 7)]⟩:=by kernel_rfl
theorem okf73:f73.ok=true:=by kernel_rfl
def R73:=PLift.up (ξ (uu f73.eq_1)<|ξ (vv f73r37.eq_1)<|ξ (uu f73b38.eq_1)<|ξ (uu f73b39.eq_1)<|ξ (vv f73r40.eq_1)<|ξ (uu f73b41.eq_1)<|ξ (uu f73b42.eq_1)<|ξ (vv f73r43.eq_1)<|ξ (uu f73b44.eq_1)<|ξ (uu f73b31.eq_1)<|ξ (vv f73r32.eq_1)<|ξ (uu f73b33.eq_1)<|ξ (uu f73b34.eq_1)<|ξ (vv f73r35.eq_1)<|ξ (uu f73b36.eq_1)<|ξ (vv f73r22.eq_1)<|ξ (vv f73r23.eq_1)<|ξ (uu f73b24.eq_1)<|ξ (uu f73b25.eq_1)<|ξ (uu f73b26.eq_1)<|ξ (vv f73r27.eq_1)<|ξ (uu f73b28.eq_1)<|ξ (uu f73b29.eq_1)<|ξ (uu f73b18.eq_1)<|ξ (vv f73r19.eq_1)<|ξ (uu f73b20.eq_1)<|ξ (uu f73b21.eq_1)<|ξ (vv f73r9.eq_1)<|ξ (vv f73r10.eq_1)<|ξ (uu f73b11.eq_1)<|ξ (uu f73b12.eq_1)<|ξ (uu f73b13.eq_1)<|ξ (vv f73r14.eq_1)<|ξ (uu f73b15.eq_1)<|ξ (uu f73b16.eq_1)<|ξ (vv f73r6.eq_1)<|ξ (uu f73b7.eq_1)<|ξ (uu f73b8.eq_1)<|ξ (vv f73r1.eq_1)<|ξ (uu f73b2.eq_1)<|ξ (uu f73b5.eq_1)<|ξ (vv f73r3.eq_1)<|uu f73b4.eq_1)
theorem Q73:type_of% R73.1:=R73.1
def f9r1:LA:=[ω 5 8 2,Θ 6 20 5,θ 7 6,qA 7 (.mov 8 (.t 1)),qA 7 (.lenS 9 (.t 8)),qA 7 (.bin 10 .leq (.t 9) (φ 1000)),η (.pick 11 (.t 7) (.t 10) (χ false)),θ 4 11]
def f9b2:AQ:=ζ f9r1 .ret
def f9r3:LA:=[zX 2 31 0,η (.mov 4 (χ false))]
def f9b4:AQ:=ζ f9r3 f9b2
def f9:AQ:=f9b4
theorem hf9:zH Tryz.prog 9=some ⟨12,f9.erase,[(RX.t 4)]⟩:=by kernel_rfl
theorem okf9:f9.ok=true:=by kernel_rfl
def R9:=PLift.up (ξ (uu f9.eq_1)<|ξ (vv f9r1.eq_1)<|ξ (uu f9b2.eq_1)<|ξ (vv f9r3.eq_1)<|uu f9b4.eq_1)
theorem Q9:type_of% R9.1:=R9.1
def f16r1:LA:=[θ 27 9,η (.bin 28 .eql (.t 27) (φ 0)),θ 29 28,qA 29 (.mov 30 (.t 12)),qA 29 (.bin 31 .eql (.t 30) (φ 0)),η (.pick 32 (.t 29) (.t 31) (χ false)),θ 33 32,qA 33 (.load 34 15 true (.t 7)),qA 33 (.load 35 15 true (.t 10)),qA 33 (.eqAgg 36 false [.int,.int,.int,.int,.int,.int,.int,.int,.int,.int,.int,.int,.int,.int,.int] (.t 34) (.t 35)),η (.pick 37 (.t 33) (.t 36) (χ false)),θ 6 37]
def f16b2:AQ:=ζ f16r1 .ret
def f16r3:LA:=[ω 21 8 3,θ 22 2,Ξ 23 10 21 22,θ 20 23,Δ 24 20 0,Δ 25 20 1,Δ 26 20 2,η (.alloc 10 35 [(.int .i64 0),(.int .i64 0),(.int .i64 0),(.int .i64 0),(.int .i64 0),(.int .i64 0),(.int .i64 0),(.int .i64 0),(.int .i64 0),(.int .i64 0),(.int .i64 0),(.int .i64 0),(.int .i64 0),(.int .i64 0),(.int .i64 0)]),Φ 15 10 24,θ 11 25,θ 12 26]
def f16b4:AQ:=ζ f16r3 f16b2
def f16r5:LA:=[ω 14 8 3,θ 15 1,Ξ 16 10 14 15,θ 13 16,Δ 17 13 0,Δ 18 13 1,Δ 19 13 2,η (.alloc 7 35 [(.int .i64 0),(.int .i64 0),(.int .i64 0),(.int .i64 0),(.int .i64 0),(.int .i64 0),(.int .i64 0),(.int .i64 0),(.int .i64 0),(.int .i64 0),(.int .i64 0),(.int .i64 0),(.int .i64 0),(.int .i64 0),(.int .i64 0)]),Φ 15 7 17,θ 8 18,θ 9 19]
def f16b6:AQ:=ζ f16r5 f16b4
def f16r7:LA:=[zX 3 31 0,η (.mov 6 (χ false))]
def f16b8:AQ:=ζ f16r7 f16b6
def f16:AQ:=f16b8
theorem hf16:zH Tryz.prog 16=some ⟨38,f16.erase,[(RX.t 6)]⟩:=by kernel_rfl
theorem okf16:f16.ok=true:=by kernel_rfl
def R16:=PLift.up (ξ (uu f16.eq_1)<|ξ (vv f16r5.eq_1)<|ξ (uu f16b6.eq_1)<|ξ (vv f16r7.eq_1)<|ξ (uu f16b8.eq_1)<|ξ (vv f16r3.eq_1)<|ξ (uu f16b4.eq_1)<|ξ (vv f16r1.eq_1)<|uu f16b2.eq_1)
theorem Q16:type_of% R16.1:=R16.1
def f17r1:LA:=[θ 27 9,η (.bin 28 .eql (.t 27) (φ 0)),θ 29 28,qA 29 (.mov 30 (.t 12)),qA 29 (.bin 31 .eql (.t 30) (φ 0)),η (.pick 32 (.t 29) (.t 31) (χ false)),θ 33 32,qA 33 (.load 34 15 true (.t 7)),qA 33 (.load 35 15 true (.t 10)),qA 33 (.eqAgg 36 false [.int,.int,.int,.int,.int,.int,.int,.int,.int,.int,.int,.int,.int,.int,.int] (.t 34) (.t 35)),η (.pick 37 (.t 33) (.t 36) (χ false)),θ 6 37]
def f17b2:AQ:=ζ f17r1 .ret
def f17r3:LA:=[ω 21 8 3,θ 22 2,Ξ 23 11 21 22,θ 20 23,Δ 24 20 0,Δ 25 20 1,Δ 26 20 2,η (.alloc 10 35 [(.int .i64 0),(.int .i64 0),(.int .i64 0),(.int .i64 0),(.int .i64 0),(.int .i64 0),(.int .i64 0),(.int .i64 0),(.int .i64 0),(.int .i64 0),(.int .i64 0),(.int .i64 0),(.int .i64 0),(.int .i64 0),(.int .i64 0)]),Φ 15 10 24,θ 11 25,θ 12 26]
def f17b4:AQ:=ζ f17r3 f17b2
def f17r5:LA:=[ω 14 8 3,θ 15 1,Ξ 16 11 14 15,θ 13 16,Δ 17 13 0,Δ 18 13 1,Δ 19 13 2,η (.alloc 7 35 [(.int .i64 0),(.int .i64 0),(.int .i64 0),(.int .i64 0),(.int .i64 0),(.int .i64 0),(.int .i64 0),(.int .i64 0),(.int .i64 0),(.int .i64 0),(.int .i64 0),(.int .i64 0),(.int .i64 0),(.int .i64 0),(.int .i64 0)]),Φ 15 7 17,θ 8 18,θ 9 19]
def f17b6:AQ:=ζ f17r5 f17b4
def f17r7:LA:=[zX 3 31 0,η (.mov 6 (χ false))]
def f17b8:AQ:=ζ f17r7 f17b6
def f17:AQ:=f17b8
theorem hf17:zH Tryz.prog 17=some ⟨38,f17.erase,[(RX.t 6)]⟩:=by kernel_rfl
theorem okf17:f17.ok=true:=by kernel_rfl
def R17:=PLift.up (ξ (uu f17.eq_1)<|ξ (vv f17r5.eq_1)<|ξ (uu f17b6.eq_1)<|ξ (vv f17r7.eq_1)<|ξ (uu f17b8.eq_1)<|ξ (vv f17r3.eq_1)<|ξ (uu f17b4.eq_1)<|ξ (vv f17r1.eq_1)<|uu f17b2.eq_1)
theorem Q17:type_of% R17.1:=R17.1
def f19r1o0:AI:=.mk none (.load 16 8 true (.t 2))
def f19r1o1:AI:=.mk none (.load 17 15 true (.t 3))
def f19r1o2:AI:=.mk none (.store 8 (.t 0) (.t 16))
def f19r1o3:AI:=.mk none (.store 15 (.t 1) (.t 17))
def f19r1:LA:=[f19r1o0,f19r1o1,f19r1o2,f19r1o3]
theorem zkN:qJ f19r1 [[],[],[0,0],[1,2,0,1,2]]=(.one f19r1o0 (.alt (.one f19r1o1 (.one f19r1o2 (.one f19r1o3 .done))) (.alt (.one f19r1o2 (.one f19r1o1 (.one f19r1o3 .done))) .top))):=by kernel_rfl
def f19b2:AQ:=.seq (.tree f19r1 [[],[],[0,0],[1,2,0,1,2]]) (.keep [0,1] [0,1,4,6,8,11,13] .ret)
def f19r3:LA:=[(η (.build 15 [(.int .i64 0),(.int .i64 0),(.int .i64 0),(.int .i64 0),(.int .i64 0),(.int .i64 0),(.int .i64 0),(.int .i64 0),(.int .i64 0),(.int .i64 0),(.int .i64 0),(.int .i64 0),(.int .i64 0),(.int .i64 0),(.int .i64 0)] [(0,(1,(φ 0))),(1,(1,(φ 1))),(2,(1,(.v (.k (.c (.int .i64 (-1))))))),(3,(1,(φ 500))),(8,(1,(φ 59))),(11,(1,(.v (.k (.c (.int .i64 (-1))))))),(13,(1,(φ 1))),(14,(1,(φ 2)))])),η (.alloc 3 35 [(.int .i64 0),(.int .i64 0),(.int .i64 0),(.int .i64 0),(.int .i64 0),(.int .i64 0),(.int .i64 0),(.int .i64 0),(.int .i64 0),(.int .i64 0),(.int .i64 0),(.int .i64 0),(.int .i64 0),(.int .i64 0),(.int .i64 0)]),Φ 15 3 15]
def f19b4:AQ:=ζ f19r3 f19b2
def f19r5:LA:=[η (.bslice 4 9 1 [(.str [])] 1 [(0,(.v (.k (.c (.str [102,114,97,110,99])))))]),η (.build 5 [(.str []),(.int .i64 0),(.int .i64 0),(.list 0 (some true) []),(.list 0 (some true) []),(.list 0 (some true) [])] [(0,(1,(.v (.k (.c (.str [76,121,111,110]))))))]),η (.bslice 6 91 6 [(.str []),(.int .i64 0),(.int .i64 0),(.list 0 (some true) []),(.list 0 (some true) []),(.list 0 (some true) [])] 1 [(0,(.t 5))]),η (.build 7 [(.int .i64 0)] [(0,(1,(φ 3)))]),η (.bslice 8 98 1 [(.int .i64 0)] 1 [(0,(.t 7))]),η (.build 9 [(.str []),(.int .i64 0),(.int .i64 0)] [(0,(1,(.v (.k (.c (.str [66,111,100,109,101,114]))))))]),η (.build 10 [(.str []),(.int .i64 0),(.int .i64 0)] [(0,(1,(.v (.k (.c (.str [72,111,112,101]))))))]),η (.bslice 11 94 3 [(.str []),(.int .i64 0),(.int .i64 0)] 2 [(0,(.t 9)),(1,(.t 10))]),η (.build 12 [(.str []),(.bool false),(.list 0 (some true) []),(.list 0 (some true) [])] [(0,(1,(.v (.k (.c (.str [103,101,110,101,118,97]))))))]),η (.bslice 13 102 4 [(.str []),(.bool false),(.list 0 (some true) []),(.list 0 (some true) [])] 1 [(0,(.t 12))]),η (.build 14 [(.list 0 (some true) []),(.list 0 (some true) []),(.list 0 (some true) []),(.list 0 (some true) []),(.list 0 (some true) []),(.list 0 (some true) []),(.list 0 (some true) []),(.list 0 (some true) [])] [(0,(1,(.t 4))),(1,(1,(.t 6))),(2,(1,(.t 8))),(3,(1,(.t 11))),(4,(1,(.t 13)))]),η (.alloc 2 31 [(.list 0 (some true) []),(.list 0 (some true) []),(.list 0 (some true) []),(.list 0 (some true) []),(.list 0 (some true) []),(.list 0 (some true) []),(.list 0 (some true) []),(.list 0 (some true) [])]),Φ 8 2 14]
def f19b6:AQ:=ζ f19r5 f19b4
def f19r7:LA:=[η (.alloc 0 31 [(.list 0 (some true) []),(.list 0 (some true) []),(.list 0 (some true) []),(.list 0 (some true) []),(.list 0 (some true) []),(.list 0 (some true) []),(.list 0 (some true) []),(.list 0 (some true) [])]),η (.alloc 1 35 [(.int .i64 0),(.int .i64 0),(.int .i64 0),(.int .i64 0),(.int .i64 0),(.int .i64 0),(.int .i64 0),(.int .i64 0),(.int .i64 0),(.int .i64 0),(.int .i64 0),(.int .i64 0),(.int .i64 0),(.int .i64 0),(.int .i64 0)])]
def f19b8:AQ:=ζ f19r7 f19b6
def f19:AQ:=f19b8
theorem hf19:zH Tryz.prog 19=some ⟨18,f19.erase,[(RX.cell 0 8 true),(RX.cell 1 15 true)]⟩:=by kernel_rfl
theorem okf19:f19.ok=true:=by kernel_rfl
def R19:=PLift.up (ξ (uu f19.eq_1)<|ξ (uu f19b2.eq_1)<|ξ (vv f19r3.eq_1)<|ξ (uu f19b4.eq_1)<|ξ (vv f19r5.eq_1)<|ξ (uu f19b6.eq_1)<|ξ (vv f19r7.eq_1)<|uu f19b8.eq_1)
theorem Q19:type_of% R19.1:=R19.1
def f20r1:LA:=[Γ 73 0 1,ψ 74 1 73,Ω 75 74,η (.bin 76 .lss (.t 75) (φ 50)),θ 77 76,qA 77 (.faddr 78 1 (.t 1)),qA 77 (.load 79 1 false (.t 78)),qA 77 (.len 80 (.t 79)),qA 77 (.bin 81 .lss (.t 80) (φ 50)),η (.pick 82 (.t 77) (.t 81) (χ false)),θ 83 82,qA 83 (.faddr 84 2 (.t 1)),qA 83 (.load 85 1 false (.t 84)),qA 83 (.len 86 (.t 85)),qA 83 (.bin 87 .lss (.t 86) (φ 50)),η (.pick 88 (.t 83) (.t 87) (χ false)),θ 89 88,qA 89 (.faddr 90 3 (.t 1)),qA 89 (.load 91 1 false (.t 90)),qA 89 (.len 92 (.t 91)),qA 89 (.bin 93 .lss (.t 92) (φ 210)),η (.pick 94 (.t 89) (.t 93) (χ false)),θ 95 94,qA 95 (.faddr 96 4 (.t 1)),qA 95 (.load 97 1 false (.t 96)),qA 95 (.len 98 (.t 97)),qA 95 (.bin 99 .lss (.t 98) (φ 50)),η (.pick 100 (.t 95) (.t 99) (χ false)),θ 101 100,qA 101 (.faddr 102 5 (.t 1)),qA 101 (.load 103 1 false (.t 102)),qA 101 (.len 104 (.t 103)),qA 101 (.bin 105 .lss (.t 104) (φ 110)),η (.pick 106 (.t 101) (.t 105) (χ false)),θ 107 106,qA 107 (.faddr 108 6 (.t 1)),qA 107 (.load 109 1 false (.t 108)),qA 107 (.len 110 (.t 109)),qA 107 (.bin 111 .lss (.t 110) (φ 110)),η (.pick 112 (.t 107) (.t 111) (χ false)),θ 113 112,qA 113 (.faddr 114 7 (.t 1)),qA 113 (.load 115 1 false (.t 114)),qA 113 (.len 116 (.t 115)),qA 113 (.bin 117 .lss (.t 116) (φ 50)),η (.pick 118 (.t 113) (.t 117) (χ false)),θ 2 118]
def f20b2:AQ:=ζ f20r1 .ret
def f20r3:LA:=[θ 53 4,η (.bin 54 .add (.t 53) (φ 1)),θ 4 54]
def f20r4:LA:=[η (.mov 2 (χ false))]
def f20b5:AQ:=ζ f20r4 .ret
def f20b6:AQ:=.cond (.t 72) f20b5 .skip
def f20r7:LA:=[Γ 55 4 1,ψ 56 1 55,θ 57 4,Ψ 58 4 56 57,Γ 59 2 58,ψ 60 1 59,Ω 61 60,η (.bin 62 .gtr (.t 61) (φ 40)),θ 63 62,iR 63 (.faddr 64 4 (.t 1)),iR 63 (.load 65 1 false (.t 64)),iR 63 (.mov 66 (.t 4)),iR 63 (.iaddr 67 4 (.t 65) (.t 66)),iR 63 (.faddr 68 3 (.t 67)),iR 63 (.load 69 1 false (.t 68)),iR 63 (.len 70 (.t 69)),iR 63 (.bin 71 .gtr (.t 70) (φ 40)),η (.pick 72 (.t 63) (χ true) (.t 71))]
def f20b8:AQ:=ζ f20r7 f20b6
def f20b9:AQ:=.block 3 f20b8
def f20b10:AQ:=.seq f20b9 (.region f20r3)
def f20b11:AQ:=.cond (.t 52) .skip (.exit 2)
def f20r12:LA:=[θ 44 4,Γ 45 4 1,ψ 46 1 45,Ω 47 46,yM 48 .lss 44 47,θ 49 48,qA 49 (.mov 50 (.t 4)),qA 49 (.bin 51 .lss (.t 50) (φ 50)),η (.pick 52 (.t 49) (.t 51) (χ false))]
def f20b13:AQ:=ζ f20r12 f20b11
def f20b14:AQ:=.seq f20b13 f20b10
def f20l15:AQ:=.loop [1,4] [1] f20b14
def f20b16:AQ:=.block 2 f20l15
def f20r17:LA:=[η (.mov 4 (φ 0))]
def f20b18:AQ:=ζ f20r17 f20b16
def f20b19:AQ:=.seq f20b18 f20b2
def f20r20:LA:=[θ 14 3,η (.bin 15 .add (.t 14) (φ 1)),θ 3 15]
def f20r21:LA:=[η (.mov 2 (χ false))]
def f20b22:AQ:=ζ f20r21 .ret
def f20b23:AQ:=.cond (.t 43) f20b22 .skip
def f20r24:LA:=[Γ 16 1 1,ψ 17 1 16,θ 18 3,Ψ 19 6 17 18,Γ 20 4 19,ψ 21 1 20,Ω 22 21,η (.bin 23 .gtr (.t 22) (φ 70)),θ 24 23,iR 24 (.faddr 25 1 (.t 1)),iR 24 (.load 26 1 false (.t 25)),iR 24 (.mov 27 (.t 3)),iR 24 (.iaddr 28 6 (.t 26) (.t 27)),iR 24 (.faddr 29 5 (.t 28)),iR 24 (.load 30 1 false (.t 29)),iR 24 (.len 31 (.t 30)),iR 24 (.bin 32 .gtr (.t 31) (φ 210)),η (.pick 33 (.t 24) (χ true) (.t 32)),θ 34 33,iR 34 (.faddr 35 1 (.t 1)),iR 34 (.load 36 1 false (.t 35)),iR 34 (.mov 37 (.t 3)),iR 34 (.iaddr 38 6 (.t 36) (.t 37)),iR 34 (.faddr 39 3 (.t 38)),iR 34 (.load 40 1 false (.t 39)),iR 34 (.len 41 (.t 40)),iR 34 (.bin 42 .gtr (.t 41) (φ 8)),η (.pick 43 (.t 34) (χ true) (.t 42))]
def f20b25:AQ:=ζ f20r24 f20b23
def f20b26:AQ:=.block 1 f20b25
def f20b27:AQ:=.seq f20b26 (.region f20r20)
def f20b28:AQ:=.cond (.t 13) .skip (.exit 0)
def f20r29:LA:=[θ 5 3,Γ 6 1 1,ψ 7 1 6,Ω 8 7,yM 9 .lss 5 8,θ 10 9,qA 10 (.mov 11 (.t 3)),qA 10 (.bin 12 .lss (.t 11) (φ 50)),η (.pick 13 (.t 10) (.t 12) (χ false))]
def f20b30:AQ:=ζ f20r29 f20b28
def f20b31:AQ:=.seq f20b30 f20b27
def f20l32:AQ:=.loop [1,3] [1] f20b31
def f20b33:AQ:=.block 0 f20l32
def f20r34:LA:=[η (.mov 3 (φ 0))]
def f20b35:AQ:=ζ f20r34 f20b33
def f20b36:AQ:=.seq f20b35 f20b19
def f20r37:LA:=[zX 1 31 0,η (.mov 2 (χ false))]
def f20b38:AQ:=ζ f20r37 f20b36
def f20:AQ:=f20b38
theorem hf20:zH Tryz.prog 20=some ⟨119,f20.erase,[(RX.t 2)]⟩:=by kernel_rfl
theorem okf20:f20.ok=true:=by kernel_rfl
def R20:=PLift.up (ξ (uu f20.eq_1)<|ξ (uu f20b33.eq_1)<|ξ (vv f20r34.eq_1)<|ξ (uu f20b35.eq_1)<|ξ (uu f20b36.eq_1)<|ξ (vv f20r37.eq_1)<|ξ (uu f20b38.eq_1)<|ξ (vv f20r20.eq_1)<|ξ (uu f20b23.eq_1)<|ξ (vv f20r24.eq_1)<|ξ (uu f20b25.eq_1)<|ξ (uu f20b26.eq_1)<|ξ (uu f20b27.eq_1)<|ξ (uu f20b28.eq_1)<|ξ (vv f20r29.eq_1)<|ξ (uu f20b30.eq_1)<|ξ (uu f20b31.eq_1)<|ξ (vv f20r21.eq_1)<|ξ (uu f20b22.eq_1)<|ξ (uu f20b16.eq_1)<|ξ (vv f20r17.eq_1)<|ξ (uu f20b18.eq_1)<|ξ (uu f20b19.eq_1)<|ξ (vv f20r3.eq_1)<|ξ (uu f20b6.eq_1)<|ξ (vv f20r7.eq_1)<|ξ (uu f20b8.eq_1)<|ξ (uu f20b9.eq_1)<|ξ (uu f20b10.eq_1)<|ξ (uu f20b11.eq_1)<|ξ (vv f20r12.eq_1)<|ξ (uu f20b13.eq_1)<|ξ (uu f20b14.eq_1)<|ξ (vv f20r4.eq_1)<|ξ (uu f20b5.eq_1)<|ξ (vv f20r1.eq_1)<|uu f20b2.eq_1)
theorem Q20:type_of% R20.1:=R20.1
end Go.Abs
namespace Go.Abs
theorem wrap_in {n:Int} (h1: -9223372036854775808≤n) (h2:n≤9223372036854775807):IntKind.i64.wrap n=n:=IntWalk.i64_in n ⟨h1,h2⟩
def zB (sz:Nat) (rows:List (List C)):C:=.list (if rows.isEmpty then 0 else sz) none rows
abbrev lst (sz:Nat) (rows:List (List C)):V:=.k (.c (zB sz rows))
def zN (l:List Int):List (List C):=l.map fun n=>[.int .i64 n]
theorem vN {α:Type} {f:α→List C} (hf: ∀x,C.normRow (f x)=f x) (l:List α):C.normRows (l.map f)=l.map f:=by
 induction l with
 |nil=>rfl
 |cons a l ih=>simp[C.normRows,hf,ih]
theorem tL {α:Type} {f:α→List C} (hf: ∀x,C.normRow (f x)=f x) (sz:Nat) (l:List α):(zB sz (l.map f)).norm=zB sz (l.map f):=by
 unfold zB
 simp only[C.norm,vN hf]
 cases l<;>simp
inductive Term where
 |mk (op n:Int) (args:List Term)
 deriving Inhabited
def Term.op:Term→Int| .mk o _ _=>o
def Term.n:Term→Int| .mk _ n _=>n
def Term.args:Term→List Term| .mk _ _ a=>a
mutual
def vE:Term→List C
 | .mk o n a=>[.int .i64 o,.int .i64 n,zB 3 (encTs a)]
def encTs:List Term→List (List C)
 |[]=>[]
 |t::l=>vE t::encTs l
end
theorem zg2: ∀(l:List Term),encTs l=l.map vE
 |[]=>rfl
 |t::l=>by simp[encTs,zg2 l]
theorem rL (t:Term):vE t=[.int .i64 t.op,.int .i64 t.n,zB 3 (t.args.map vE)]:=by
 cases t with
 |mk o n a=>simp[vE,Term.op,Term.n,Term.args,zg2]
mutual
theorem jO: ∀(t:Term),C.normRow (vE t)=vE t
 | .mk o n a=>by
   simp only[vE,C.normRow,C.norm,zB,encTs_norm a]
   cases a<;>simp[encTs]
theorem encTs_norm: ∀(l:List Term),C.normRows (encTs l)=encTs l
 |[]=>rfl
 |t::l=>by simp only[encTs,C.normRows,jO t,encTs_norm l]
end
structure Choice where
 ask:Int
 by_:Int
 whole:Bool
 deriving Inhabited
structure Rule where
 ask:Int
 term:Term
 deriving Inhabited
structure Order where
 name:List UInt8
 accepts:Bool
 choices:List Choice
 rules:List Rule
 deriving Inhabited
def vF (c:Choice):List C:=[.int .i64 c.ask,.int .i64 c.by_,.bool c.whole]
def wX (r:Rule):List C:=.int .i64 r.ask::vE r.term
def wF (o:Order):List C:=[.str o.name,.bool o.accepts,zB 3 (o.choices.map vF),zB 4 (o.rules.map wX)]
theorem dX (c:Choice):C.normRow (vF c)=vF c:=rfl
theorem dY (r:Rule):C.normRow (wX r)=wX r:=by simp[wX,C.normRow,C.norm,jO]
theorem oR (o:Order):C.normRow (wF o)=wF o:=by
 simp only[wF,C.normRow,C.norm,tL dX,tL dY]
structure Cell where
 known:Bool
 n:Int
 deriving Inhabited
def tM (c:Cell):List C:=[.bool c.known,.int .i64 c.n]
theorem zg3 (c:Cell):C.normRow (tM c)=tM c:=rfl
def zg4 (n:Int):List C:=[.int .i64 n]
@[simp] theorem znE (k:IntKind) (n:Int):C.normRow [.int k n]=[.int k n]:=rfl
@[simp] theorem znF (n:Int):C.normRow (zg4 n)=zg4 n:=rfl
attribute [simp] jO dX dY oR zg3 C.normRow
@[simp] theorem znG (k:IntKind) (n:Int):(C.int k n).norm=.int k n:=rfl
@[simp] theorem znH (b:Bool):(C.bool b).norm=.bool b:=rfl
@[simp] theorem znI (s:List UInt8):(C.str s).norm=.str s:=rfl
@[simp] theorem znJ (row:List C) (off:Nat):(C.ro row off).norm=.ro (C.normRow row) off:=rfl
@[simp] theorem znK (f:FuncId) (caps:List C):(C.fn f caps).norm=.fn f (C.normRow caps):=rfl
@[simp] theorem znL (l:List Term):C.normRows (l.map vE)=l.map vE:=vN jO l
@[simp] theorem mG (l:List Choice):C.normRows (l.map vF)=l.map vF:=vN dX l
@[simp] theorem dZ (l:List Rule):C.normRows (l.map wX)=l.map wX:=vN dY l
@[simp] theorem znM (l:List Order):C.normRows (l.map wF)=l.map wF:=vN oR l
@[simp] theorem znN (l:List Cell):C.normRows (l.map tM)=l.map tM:=vN zg3 l
@[simp] theorem vA (l:List Int):C.normRows (zN l)=zN l:=vN (fun _=>rfl) l
@[simp] theorem znO:C.normRows []=[]:=rfl
@[simp] theorem znP (r:List C) (l:List (List C)):C.normRows (r::l)=C.normRow r::C.normRows l:=rfl
@[simp] theorem zU (l:List Int):(zN l).length=l.length:=by simp[zN]
@[simp] theorem znQ (l:List Int):(zN l).isEmpty=l.isEmpty:=by cases l<;>rfl
theorem zg5 (o:Nat→Option O) (sz:Nat) (rows:List (List C)):vLen o (.k (.c (zB sz rows)))=some (True,.int .i64 rows.length):=rfl
theorem zg6 (o:Nat→Option O) (sz:Nat) (rows:List (List C)) (k:IntKind) (n:Int):vIaddr o sz (.k (.c (zB sz rows))) (.k (.c (.int k n)))=some (0≤n∧n<rows.length,.k (.pel sz rows n.toNat 0)):=by
 simp only[zB,vIaddr,Option.some.injEq,Prod.mk.injEq]
 cases rows with
 |nil=>simp;omega
 |cons a l=>
  refine⟨?_,?_⟩
  ·simp
  ·simp
def cA (sz:Nat) (rows:List (List C)):Option Int→Option Int→Option (Prop×V)
 |some l,some h=>some (0≤l∧l≤h∧h≤rows.length,.list sz none ((rows.take h.toNat).drop l.toNat))
 |_,_=>none
theorem cB (sz:Nat) (lo hi:Option V) (rows:List (List C)):tA sz lo hi (.k (.c (zB sz rows)))=cA sz rows (vBound 0 lo) (vBound rows.length hi):=by
 simp only[zB,tA]
 generalize vBound 0 lo=a
 generalize vBound (↑rows.length) hi=b
 cases a<;>cases b<;>simp only[nK,cA]
 simp only[Option.some.injEq,Prod.mk.injEq,and_true]
 cases rows<;>simp
theorem cC (sz:Nat) (rows:List (List C)) (l h:Int):cA sz rows (some l) (some h)=some (0≤l∧l≤h∧h≤rows.length,.list sz none ((rows.take h.toNat).drop l.toNat)):=id rfl
@[simp] theorem xT (sz:Nat) (rows:List (List C)):(zB sz rows).norm=zB sz (C.normRows rows):=by
  unfold zB
  simp only[C.norm]
  cases rows<;>simp[C.normRows]
@[simp] theorem zW (sz:Nat) (nl:Option Bool) (rows:List (List C)):(C.list sz nl rows).norm=zB sz (C.normRows rows):=by
  unfold zB
  simp only[C.norm]
  cases rows<;>simp[C.normRows]
theorem zkO (d:Nat) (r:List C):(r.map Abs.K.c).all (Abs.K.noRef d)=true:=by induction r<;>simp_all [Abs.K.noRef]
theorem zoH {o:Order} {l:List V} (hm:V.agg (wF o)∈l) (h: ∀v,v∈l→ ∀c,c∈v.topC→ ∀sz nl rows,c=.list sz nl rows→rows.length≤9223372036854775807):
  o.choices.length≤9223372036854775807∧o.rules.length≤9223372036854775807:=by
 refine⟨?_,?_⟩
 ·have:=h _ hm (zB 3 (o.choices.map vF)) (by simp[V.topC,wF]) _ _ _ rfl
  simpa using this
 ·have:=h _ hm (zB 4 (o.rules.map wX)) (by simp[V.topC,wF]) _ _ _ rfl
  simpa using this
theorem zg7 {sz:Nat} {rows:List (List C)} {l:List V} (hm:lst sz rows∈l) (h: ∀v,v∈l→ ∀c,c∈v.topC→ ∀sz nl rows,c=.list sz nl rows→rows.length≤9223372036854775807):rows.length≤9223372036854775807:=
 h _ hm (zB sz rows) (by simp[V.topC]) _ _ _ rfl
section
variable {P : Program} {f : FuncId} {vs : List V} {K : KK} {d : Nat} {ts : TS} {os : OS}
theorem zC {args:List V} {r:V} {X:Prop} (hs:Spec P f args (fun r'=>r'=r)) (hk:K (insT d r ts) os)
  (hp:vs.all (fun v=>(zD os v).isPure)=true:=by simp[zD,wW,lookO,V.isPure])
  (ha:vs.map (fun v=>(zD os v).norm)=args:=by simp[zD,wW,lookO,V.norm,rL,wX,wF,vF,tM,zW,lst]) (hr:r.scalar=true:=by rfl):sE P f vs [] K (some d) ts os∨X:=by
 refine .inl ⟨hp,r,.inl ?_,?_⟩
 ·simpa [ha] using hs
 ·rw[if_pos hr];exact hk
theorem cD {cs:List C} {args:List V} {r:V} {X:Prop} (hs:Spec P f args (fun r'=>r'=r)) (hk:K (insT d r ts) os)
  (hp:vs.all (fun v=>(zD os v).isPure)=true:=by simp[zD,wW,lookO,V.isPure])
  (ha:(vs.map (fun v=>(zD os v).norm)++cs.map fun c=> .k (.c c.norm))=args:=by simp[zD,wW,lookO,V.norm,rL,wX,wF,vF,tM,zW,lst]) (hr:r.scalar=true:=by rfl):sE P f vs cs K (some d) ts os∨X:=by
 refine .inl ⟨hp,r,.inl (by rw[ha];exact hs),?_⟩
 rw[if_pos hr];exact hk
theorem sG {args:List V} {r:V} {X:Prop} (hs:Spec P f args (fun r'=>r'=r)) (hk:retK r K ts os (some d))
  (hp:vs.all (fun v=>(zD os v).isPure)=true:=by simp[zD,wW,lookO,V.isPure])
  (ha:vs.map (fun v=>(zD os v).norm)=args:=by simp[zD,wW,lookO,V.norm,rL,wX,wF,vF,tM,zW,lst])
  (ht:vs.all (fun v=>v.toks.isEmpty)=true:=by simp[V.toks,K.toks]) (hr:r.scalar=false:=by rfl):sE P f vs [] K (some d) ts os∨X:=by
 refine .inl ⟨hp,r,.inl (by simpa [ha] using hs),?_⟩
 rw[if_neg (by simp[hr])]
 exact⟨ht,hk⟩
theorem zkP {args:List V} {e sz:Nat} {nl:Option Bool} {rows:List (List C)} {X:Prop} (hs:Spec P f args (fun r'=>r'=.k (.newl e sz nl rows))) (hk:K (insT d (.k (.own d)) ts) (insO d (.arr e sz nl rows) os))
  (hp:vs.all (fun v=>(zD os v).isPure)=true:=by simp[zD,wW,lookO,V.isPure])
  (ha:vs.map (fun v=>(zD os v).norm)=args:=by simp[zD,wW,lookO,V.norm,rL,wX,wF,vF,tM,zW,lst])
  (ht:vs.all (fun v=>v.toks.isEmpty)=true:=by simp[V.toks,K.toks]) (hf:freeB d ts os:=by first|rfl|simp[freeB,freeT,freeO,V.noRef,V.noRefL,O.noRef,Abs.K.noRef,zkO]):sE P f vs [] K (some d) ts os∨X:=by
 refine .inl ⟨hp,_,.inl (by simpa [ha] using hs),?_⟩
 rw[if_neg (by simp[V.scalar])]
 refine⟨ht,?_⟩
 show regK _ _ _ _ _ _
 refine⟨⟨⟨hf,.inl rfl⟩,trivial⟩,hk⟩
theorem yV {args:List V} {r:V} (hs:Spec P f args (fun r'=>r'=r)) (hk:K (insT d r.fz ts) os)
  (hp:vs.all (fun v=>(zD os v).isPure)=true:=by simp[zD,wW,lookO,V.isPure])
  (ha:vs.map (fun v=>(zD os v).norm)=args:=by simp[zD,wW,lookO,V.norm,rL,wX,wF,vF,tM,zW,lst]) (hr:r.scalar=true:=by rfl):nV P f vs [] K d ts os:=
 ⟨hp,r,by simpa [ha] using hs,.inl hr,hk⟩
theorem zkQ {args:List V} {r:V} (hs:Spec P f args (fun r'=>r'=r)) (hk:K (insT d r.fz ts) os)
  (hp:vs.all (fun v=>(zD os v).isPure)=true:=by simp[zD,wW,lookO,V.isPure])
  (ha:vs.map (fun v=>(zD os v).norm)=args:=by simp[zD,wW,lookO,V.norm,rL,wX,wF,vF,tM,zW,lst]) (hr:vs.all (fun v=>v.toks.isEmpty)=true:=by simp[V.toks,K.toks]):nV P f vs [] K d ts os:=
 ⟨hp,r,by simpa [ha] using hs,.inr hr,hk⟩
end
end Go.Abs
set_option maxRecDepth 100000
namespace Go.Abs
theorem Qs:(((((((((type_of% @zc6∧type_of% @zbE)∧(type_of% @zc3∧type_of% @zca))∧((type_of% @zcg∧type_of% @true_and)∧(type_of% @zbF∧(type_of% @zcw∧type_of% @zdx))))∧(((type_of% @zb9∧type_of% @zdi)∧(type_of% @zc9∧type_of% @zc4))∧((type_of% @zdc∧type_of% @zf4)∧(type_of% @zf5∧(type_of% @Nat.zero_add∧type_of% @and_self)))))∧((((type_of% @zdd∧type_of% @zdo)∧(type_of% @zgx∧type_of% @zdy))∧((type_of% @zdz∧type_of% @zcE)∧(type_of% @zdA∧(type_of% @zdC∧type_of% @zeC))))∧(((type_of% @zeD∧type_of% @zeE)∧(type_of% @zf9∧(type_of% @zgj∧type_of% @zgz)))∧((type_of% @zgi∧type_of% @zgr)∧(type_of% @zf6∧(type_of% @zf7∧type_of% @zgy))))))∧(((((type_of% @zfb∧type_of% @zfi)∧(type_of% @zfm∧type_of% @zei))∧((type_of% @zej∧type_of% @zdg)∧(type_of% @ze8∧(type_of% @ze9∧type_of% @zfa))))∧(((type_of% @zfc∧type_of% @Bool.false_eq_true)∧(type_of% @zfJ∧(type_of% @zfK∧type_of% @zbG)))∧((type_of% @zcC∧type_of% @zfd)∧(type_of% @zft∧(type_of% @zfx∧type_of% @zfA)))))∧((((type_of% @zfD∧type_of% @zf8)∧(type_of% @zfg∧type_of% @zd4))∧((type_of% @zd5∧type_of% @zd6)∧(type_of% @zcN∧(type_of% @zcy∧type_of% @Nat.le_refl))))∧(((type_of% @zc8∧type_of% @zcJ)∧(type_of% @zeg∧(type_of% @zeF∧type_of% @zen)))∧((type_of% @zdZ∧type_of% @zgA)∧(type_of% @zgt∧(type_of% @zgs∧type_of% @zd9)))))))∧((((((type_of% @zcn∧type_of% @zfo)∧(type_of% @xT∧type_of% @zdk))∧((type_of% @zgv∧type_of% @zfr)∧(type_of% @zc5∧(type_of% @zdJ∧type_of% @zcj))))∧(((type_of% @zc7∧type_of% @zcm)∧(type_of% @decide_true∧type_of% @vA))∧((type_of% @zfM∧type_of% @zfN)∧(type_of% @zdv∧(type_of% @zdw∧type_of% @zde)))))∧((((type_of% @zfj∧type_of% @zcq)∧(type_of% @zgu∧type_of% @zdQ))∧((type_of% @zdS∧type_of% @zdR)∧(type_of% @decide_false∧(type_of% @zfL∧type_of% @zci))))∧(((type_of% @zcF∧type_of% @Bool.and_true)∧(type_of% @Nat.add_zero∧(type_of% @zga∧type_of% @zbH)))∧((type_of% @zfl∧type_of% @zeh)∧(type_of% @zeI∧(type_of% @zeJ∧type_of% @zeK))))))∧(((((type_of% @zeL∧type_of% @Bool.or_true)∧(type_of% @zg5∧type_of% @zcP))∧((type_of% @not_false_eq_true∧type_of% @zeO)∧(type_of% @zcv∧(type_of% @zdH∧type_of% @zd7))))∧(((type_of% @zem∧type_of% @zew)∧(type_of% @zex∧(type_of% @Int.toNat_natCast∧type_of% @zg6)))∧((type_of% @zeN∧type_of% @zeQ)∧(type_of% @zcD∧(type_of% @zch∧type_of% @zgo)))))∧((((type_of% @zgp∧type_of% @zcc)∧(type_of% @zco∧type_of% @zdL))∧((type_of% @zdn∧type_of% @zea)∧(type_of% @zd3∧(type_of% @zgm∧type_of% @zeM))))∧(((type_of% @zeS∧type_of% @zeU)∧(type_of% @Bool.false_or∧(type_of% @zel∧type_of% @zcK)))∧((type_of% @zdD∧type_of% @zcA)∧(type_of% @zeq∧(type_of% @zfn∧type_of% @zdl))))))))∧(((((((type_of% @zdB∧type_of% @zgk)∧(type_of% @zgl∧type_of% @zdT))∧((type_of% @zcM∧type_of% @Bool.true_and)∧(type_of% @zcS∧(type_of% @zdI∧type_of% @zcz))))∧(((type_of% @zgb∧type_of% @zdf)∧(type_of% @zdj∧type_of% @zdm))∧((type_of% @Bool.and_eq_true∧type_of% @zeb)∧(type_of% @zd8∧(type_of% @zcb∧type_of% @zcU)))))∧((((type_of% @zct∧type_of% @zfQ)∧(type_of% @zfS∧type_of% @zd0))∧((type_of% @zc1∧type_of% @zfh)∧(type_of% @zU∧(type_of% @zfu∧type_of% @zfy))))∧(((type_of% @zfz∧type_of% @zfC)∧(type_of% @zfF∧(type_of% @zfG∧type_of% @zdM)))∧((type_of% @zd1∧type_of% @zek)∧(type_of% @zck∧(type_of% @zcr∧type_of% @zdE))))))∧(((((type_of% @zfk∧type_of% @zfp)∧(type_of% @zfq∧type_of% @zda))∧((type_of% @zdN∧type_of% @zcZ)∧(type_of% @zcY∧(type_of% @zdO∧type_of% @zcW))))∧(((type_of% @zbW∧type_of% @zcQ)∧(type_of% @zdU∧(type_of% @Int.natCast_nonneg∧type_of% @zdK)))∧((type_of% @zfH∧type_of% @zeT)∧(type_of% @or_false∧(type_of% @zeG∧type_of% @zeH)))))∧((((type_of% @zd2∧type_of% @zfe)∧(type_of% @zff∧type_of% @zfv))∧((type_of% @zfB∧type_of% @zgc)∧(type_of% @zgd∧(type_of% @zes∧type_of% @zet))))∧(((type_of% @zeu∧type_of% @zeZ)∧(type_of% @ze5∧(type_of% @zge∧type_of% @zgf)))∧((type_of% @zgg∧type_of% @zdh)∧(type_of% @zdp∧(type_of% @zdq∧type_of% @zdr)))))))∧((((((type_of% @zds∧type_of% @zgn)∧(type_of% @ze2∧type_of% @ze3))∧((type_of% @ze7∧type_of% @zgw)∧(type_of% @zcT∧(type_of% @ze6∧type_of% @zfs))))∧(((type_of% @zdu∧type_of% @zgB)∧(type_of% @nZ∧type_of% @zeR))∧((type_of% @zeV∧type_of% @zeP)∧(type_of% @zeW∧(type_of% @zdG∧type_of% @zcB)))))∧((((type_of% @zev∧type_of% @zfI)∧(type_of% @zee∧type_of% @zef))∧((type_of% @zec∧type_of% @zed)∧(type_of% @nY∧(type_of% @mB∧type_of% @zcO))))∧(((type_of% @zgE∧type_of% @zgG)∧(type_of% @zgJ∧(type_of% @zgK∧type_of% @oA)))∧((type_of% @zeY∧type_of% @zfV)∧(type_of% @zfX∧(type_of% @zf0∧type_of% @zf1))))))∧(((((type_of% @zf2∧type_of% @zf3)∧(type_of% @zcu∧type_of% @zgI))∧((type_of% @zeX∧type_of% @zcs)∧(type_of% @zgR∧(type_of% @zgS∧type_of% @zfO))))∧(((type_of% @zfP∧type_of% @Int.toNat_zero)∧(type_of% @ze4∧(type_of% @zgT∧type_of% @zgU)))∧((type_of% @zfW∧type_of% @zfY)∧(type_of% @zfZ∧(type_of% @zcL∧type_of% @zdY)))))∧((((type_of% @zdF∧type_of% @zgF)∧(type_of% @zcV∧type_of% @ze0))∧((type_of% @zcI∧type_of% @nX)∧(type_of% @dK∧(type_of% @zcR∧type_of% @zep))))∧(((type_of% @zey∧type_of% @zez)∧(type_of% @zeA∧(type_of% @zeB∧type_of% @zgC)))∧((type_of% @zgH∧type_of% @oM)∧(type_of% @zdt∧(type_of% @zgh∧type_of% @Int.cast_ofNat_Int))))))))))∧type_of% @if_true.{1}∧type_of% @if_false.{1}∧type_of% @if_true.{0}∧type_of% @if_false.{0}∧type_of% @List.nodup_nil.{0}∧type_of% @φ.eq_1∧type_of% @χ.eq_1∧type_of% @θ.eq_1∧type_of% @ψ.eq_1∧type_of% @ω.eq_1∧type_of% @Γ.eq_1∧type_of% @Δ.eq_1∧type_of% @Θ.eq_1∧type_of% @Ξ.eq_1∧type_of% @Φ.eq_1∧type_of% @Ψ.eq_1∧type_of% @Ω.eq_1∧type_of% @zX.eq_1∧type_of% @yM.eq_1∧type_of% @qA.eq_1∧type_of% @iR.eq_1∧type_of% @η.eq_1∧type_of% @ζ.eq_1:=⟨⟨⟨⟨⟨⟨⟨⟨⟨@zc6,@zbE⟩,⟨@zc3,@zca⟩⟩,⟨⟨@zcg,@true_and⟩,⟨@zbF,⟨@zcw,@zdx⟩⟩⟩⟩,⟨⟨⟨@zb9,@zdi⟩,⟨@zc9,@zc4⟩⟩,⟨⟨@zdc,@zf4⟩,⟨@zf5,⟨@Nat.zero_add,@and_self⟩⟩⟩⟩⟩,⟨⟨⟨⟨@zdd,@zdo⟩,⟨@zgx,@zdy⟩⟩,⟨⟨@zdz,@zcE⟩,⟨@zdA,⟨@zdC,@zeC⟩⟩⟩⟩,⟨⟨⟨@zeD,@zeE⟩,⟨@zf9,⟨@zgj,@zgz⟩⟩⟩,⟨⟨@zgi,@zgr⟩,⟨@zf6,⟨@zf7,@zgy⟩⟩⟩⟩⟩⟩,⟨⟨⟨⟨⟨@zfb,@zfi⟩,⟨@zfm,@zei⟩⟩,⟨⟨@zej,@zdg⟩,⟨@ze8,⟨@ze9,@zfa⟩⟩⟩⟩,⟨⟨⟨@zfc,@Bool.false_eq_true⟩,⟨@zfJ,⟨@zfK,@zbG⟩⟩⟩,⟨⟨@zcC,@zfd⟩,⟨@zft,⟨@zfx,@zfA⟩⟩⟩⟩⟩,⟨⟨⟨⟨@zfD,@zf8⟩,⟨@zfg,@zd4⟩⟩,⟨⟨@zd5,@zd6⟩,⟨@zcN,⟨@zcy,@Nat.le_refl⟩⟩⟩⟩,⟨⟨⟨@zc8,@zcJ⟩,⟨@zeg,⟨@zeF,@zen⟩⟩⟩,⟨⟨@zdZ,@zgA⟩,⟨@zgt,⟨@zgs,@zd9⟩⟩⟩⟩⟩⟩⟩,⟨⟨⟨⟨⟨⟨@zcn,@zfo⟩,⟨@xT,@zdk⟩⟩,⟨⟨@zgv,@zfr⟩,⟨@zc5,⟨@zdJ,@zcj⟩⟩⟩⟩,⟨⟨⟨@zc7,@zcm⟩,⟨@decide_true,@vA⟩⟩,⟨⟨@zfM,@zfN⟩,⟨@zdv,⟨@zdw,@zde⟩⟩⟩⟩⟩,⟨⟨⟨⟨@zfj,@zcq⟩,⟨@zgu,@zdQ⟩⟩,⟨⟨@zdS,@zdR⟩,⟨@decide_false,⟨@zfL,@zci⟩⟩⟩⟩,⟨⟨⟨@zcF,@Bool.and_true⟩,⟨@Nat.add_zero,⟨@zga,@zbH⟩⟩⟩,⟨⟨@zfl,@zeh⟩,⟨@zeI,⟨@zeJ,@zeK⟩⟩⟩⟩⟩⟩,⟨⟨⟨⟨⟨@zeL,@Bool.or_true⟩,⟨@zg5,@zcP⟩⟩,⟨⟨@not_false_eq_true,@zeO⟩,⟨@zcv,⟨@zdH,@zd7⟩⟩⟩⟩,⟨⟨⟨@zem,@zew⟩,⟨@zex,⟨@Int.toNat_natCast,@zg6⟩⟩⟩,⟨⟨@zeN,@zeQ⟩,⟨@zcD,⟨@zch,@zgo⟩⟩⟩⟩⟩,⟨⟨⟨⟨@zgp,@zcc⟩,⟨@zco,@zdL⟩⟩,⟨⟨@zdn,@zea⟩,⟨@zd3,⟨@zgm,@zeM⟩⟩⟩⟩,⟨⟨⟨@zeS,@zeU⟩,⟨@Bool.false_or,⟨@zel,@zcK⟩⟩⟩,⟨⟨@zdD,@zcA⟩,⟨@zeq,⟨@zfn,@zdl⟩⟩⟩⟩⟩⟩⟩⟩,⟨⟨⟨⟨⟨⟨⟨@zdB,@zgk⟩,⟨@zgl,@zdT⟩⟩,⟨⟨@zcM,@Bool.true_and⟩,⟨@zcS,⟨@zdI,@zcz⟩⟩⟩⟩,⟨⟨⟨@zgb,@zdf⟩,⟨@zdj,@zdm⟩⟩,⟨⟨@Bool.and_eq_true,@zeb⟩,⟨@zd8,⟨@zcb,@zcU⟩⟩⟩⟩⟩,⟨⟨⟨⟨@zct,@zfQ⟩,⟨@zfS,@zd0⟩⟩,⟨⟨@zc1,@zfh⟩,⟨@zU,⟨@zfu,@zfy⟩⟩⟩⟩,⟨⟨⟨@zfz,@zfC⟩,⟨@zfF,⟨@zfG,@zdM⟩⟩⟩,⟨⟨@zd1,@zek⟩,⟨@zck,⟨@zcr,@zdE⟩⟩⟩⟩⟩⟩,⟨⟨⟨⟨⟨@zfk,@zfp⟩,⟨@zfq,@zda⟩⟩,⟨⟨@zdN,@zcZ⟩,⟨@zcY,⟨@zdO,@zcW⟩⟩⟩⟩,⟨⟨⟨@zbW,@zcQ⟩,⟨@zdU,⟨@Int.natCast_nonneg,@zdK⟩⟩⟩,⟨⟨@zfH,@zeT⟩,⟨@or_false,⟨@zeG,@zeH⟩⟩⟩⟩⟩,⟨⟨⟨⟨@zd2,@zfe⟩,⟨@zff,@zfv⟩⟩,⟨⟨@zfB,@zgc⟩,⟨@zgd,⟨@zes,@zet⟩⟩⟩⟩,⟨⟨⟨@zeu,@zeZ⟩,⟨@ze5,⟨@zge,@zgf⟩⟩⟩,⟨⟨@zgg,@zdh⟩,⟨@zdp,⟨@zdq,@zdr⟩⟩⟩⟩⟩⟩⟩,⟨⟨⟨⟨⟨⟨@zds,@zgn⟩,⟨@ze2,@ze3⟩⟩,⟨⟨@ze7,@zgw⟩,⟨@zcT,⟨@ze6,@zfs⟩⟩⟩⟩,⟨⟨⟨@zdu,@zgB⟩,⟨@nZ,@zeR⟩⟩,⟨⟨@zeV,@zeP⟩,⟨@zeW,⟨@zdG,@zcB⟩⟩⟩⟩⟩,⟨⟨⟨⟨@zev,@zfI⟩,⟨@zee,@zef⟩⟩,⟨⟨@zec,@zed⟩,⟨@nY,⟨@mB,@zcO⟩⟩⟩⟩,⟨⟨⟨@zgE,@zgG⟩,⟨@zgJ,⟨@zgK,@oA⟩⟩⟩,⟨⟨@zeY,@zfV⟩,⟨@zfX,⟨@zf0,@zf1⟩⟩⟩⟩⟩⟩,⟨⟨⟨⟨⟨@zf2,@zf3⟩,⟨@zcu,@zgI⟩⟩,⟨⟨@zeX,@zcs⟩,⟨@zgR,⟨@zgS,@zfO⟩⟩⟩⟩,⟨⟨⟨@zfP,@Int.toNat_zero⟩,⟨@ze4,⟨@zgT,@zgU⟩⟩⟩,⟨⟨@zfW,@zfY⟩,⟨@zfZ,⟨@zcL,@zdY⟩⟩⟩⟩⟩,⟨⟨⟨⟨@zdF,@zgF⟩,⟨@zcV,@ze0⟩⟩,⟨⟨@zcI,@nX⟩,⟨@dK,⟨@zcR,@zep⟩⟩⟩⟩,⟨⟨⟨@zey,@zez⟩,⟨@zeA,⟨@zeB,@zgC⟩⟩⟩,⟨⟨@zgH,@oM⟩,⟨@zdt,⟨@zgh,@Int.cast_ofNat_Int⟩⟩⟩⟩⟩⟩⟩⟩⟩,@if_true,@if_false,@if_true,@if_false,@List.nodup_nil,@φ.eq_1,@χ.eq_1,@θ.eq_1,@ψ.eq_1,@ω.eq_1,@Γ.eq_1,@Δ.eq_1,@Θ.eq_1,@Ξ.eq_1,@Φ.eq_1,@Ψ.eq_1,@Ω.eq_1,@zX.eq_1,@yM.eq_1,@qA.eq_1,@iR.eq_1,@η.eq_1,@ζ.eq_1⟩
end Go.Abs
namespace Go.Abs
section
variable {P : Program}
theorem wO {n:Nat} {t:TypeId} {r:List C} {k:IntKind} (hu:P.underlying t=some (.int k)) (h:yC P n t r): ∃m:Int,r=[.int k m]∧(Lit.int k m).wf=true:=by
 cases n with
 |zero=>exact h.elim
 |succ n=>simp only[yC,hu] at h;exact h
theorem zg8 {n:Nat} {t:TypeId} {r:List C} (hu:P.underlying t=some .bool) (h:yC P n t r): ∃b:Bool,r=[.bool b]:=by
 cases n with
 |zero=>exact h.elim
 |succ n=>simp only[yC,hu] at h;exact h
theorem mH {n:Nat} {t:TypeId} {r:List C} (hu:P.underlying t=some .string) (h:yC P n t r): ∃s:List UInt8,r=[.str s]∧s.length≤9223372036854775807:=by
 cases n with
 |zero=>exact h.elim
 |succ n=>simp only[yC,hu] at h;exact h
theorem uC {n:Nat} {t e:TypeId} {r:List C} (hu:P.underlying t=some (.slice e)) (h:yC P n t r): ∃m rows,n=m+1∧r=[zB (P.cellsOf e) rows]∧rows.length≤9223372036854775807∧ ∀x∈rows,yC P m e x:=by
 cases n with
 |zero=>exact h.elim
 |succ n=>simp only[yC,hu] at h;obtain⟨rows,h1,h2,h3⟩:=h;exact⟨n,rows,rfl,h1,h2,h3⟩
theorem tN {n:Nat} {t:TypeId} {fs:Array Field} {r:List C} (hu:P.underlying t=some (.struct fs)) (h:yC P n t r): ∃m rs,n=m+1∧r=rs.flatten∧uW (yC P m) (fs.toList.map (·.type)) rs:=by
 cases n with
 |zero=>exact h.elim
 |succ n=>simp only[yC,hu] at h;obtain⟨rs,h1,h2⟩:=h;exact⟨n,rs,rfl,h1,h2⟩
theorem zkR {S:TypeId→List C→Prop} {a b:TypeId} {rs:List (List C)} (h:uW S [a,b] rs): ∃x y,rs=[x,y]∧S a x∧S b y:=by
 match rs,h with
 |[x,y],h=>exact⟨x,y,rfl,h.1,h.2.1⟩
theorem jP {S:TypeId→List C→Prop} {a b c:TypeId} {rs:List (List C)} (h:uW S [a,b,c] rs): ∃x y z,rs=[x,y,z]∧S a x∧S b y∧S c z:=by
 match rs,h with
 |[x,y,z],h=>exact⟨x,y,z,rfl,h.1,h.2.1,h.2.2.1⟩
theorem zkS {S:TypeId→List C→Prop} {a b c d:TypeId} {rs:List (List C)} (h:uW S [a,b,c,d] rs): ∃x y z u,rs=[x,y,z,u]∧S a x∧S b y∧S c z∧S d u:=by
 match rs,h with
 |[x,y,z,u],h=>exact⟨x,y,z,u,rfl,h.1,h.2.1,h.2.2.1,h.2.2.2.1⟩
theorem tP {α:Type} {S:List C→Prop} (enc:α→List C) (hS: ∀r,S r→ ∃a,r=enc a): ∀(rows:List (List C)),(∀r∈rows,S r)→ ∃l:List α,rows=l.map enc
 |[],_=>⟨[],rfl⟩
 |r::rows,h=>by
  obtain⟨a,ha⟩:=hS r (h r (by simp))
  obtain⟨l,hl⟩:=tP enc hS rows (fun x hx=>h x (by simp[hx]))
  exact⟨a::l,by rw[ha,hl];rfl⟩
structure TermTypes (P:Program) (tI tB tS tT tLT tR tLR tC tLC tO:TypeId):Prop where
 i:P.underlying tI=some (.int .i64)
 b:P.underlying tB=some .bool
 s:P.underlying tS=some .string
 t: ∃fs,P.underlying tT=some (.struct fs)∧fs.toList.map (·.type)=[tI,tI,tLT]
 lt:P.underlying tLT=some (.slice tT)∧P.cellsOf tT=3
 r: ∃fs,P.underlying tR=some (.struct fs)∧fs.toList.map (·.type)=[tI,tT]
 lr:P.underlying tLR=some (.slice tR)∧P.cellsOf tR=4
 c: ∃fs,P.underlying tC=some (.struct fs)∧fs.toList.map (·.type)=[tI,tI,tB]
 lc:P.underlying tLC=some (.slice tC)∧P.cellsOf tC=3
 o: ∃fs,P.underlying tO=some (.struct fs)∧fs.toList.map (·.type)=[tS,tB,tLC,tLR]
variable {tI tB tS tT tLT tR tLR tC tLC tO : TypeId}
theorem zkT (h:TermTypes P tI tB tS tT tLT tR tLR tC tLC tO): ∀(n:Nat) (r:List C),yC P n tT r→ ∃t:Term,r=vE t:=by
 intro n
 induction n using Nat.strongRecOn with
 |ind n ih=>
  intro r hr
  obtain⟨fs,hf,hl⟩:=h.t
  obtain⟨m,rs,rfl,rfl,hs⟩:=tN hf hr
  rw[hl] at hs
  obtain⟨x,y,z,rfl,h1,h2,h3⟩:=jP hs
  obtain⟨op,rfl,_⟩:=wO h.i h1
  obtain⟨k,rfl,_⟩:=wO h.i h2
  obtain⟨m',rows,rfl,rfl,_,h4⟩:=uC h.lt.1 h3
  obtain⟨l,rfl⟩:=tP vE (fun r hr=>ih m' (by omega) r hr) rows h4
  exact⟨.mk op k l,by rw[rL,h.lt.2];rfl⟩
theorem zkU (h:TermTypes P tI tB tS tT tLT tR tLR tC tLC tO) {n:Nat} {r:List C} (hr:yC P n tR r): ∃x:Rule,r=wX x:=by
 obtain⟨fs,hf,hl⟩:=h.r
 obtain⟨m,rs,rfl,rfl,hs⟩:=tN hf hr
 rw[hl] at hs
 obtain⟨x,y,rfl,h1,h2⟩:=zkR hs
 obtain⟨a,rfl,_⟩:=wO h.i h1
 obtain⟨t,rfl⟩:=zkT h m y h2
 exact⟨⟨a,t⟩,by simp[wX]⟩
theorem zkV (h:TermTypes P tI tB tS tT tLT tR tLR tC tLC tO) {n:Nat} {r:List C} (hr:yC P n tC r): ∃x:Choice,r=vF x:=by
 obtain⟨fs,hf,hl⟩:=h.c
 obtain⟨m,rs,rfl,rfl,hs⟩:=tN hf hr
 rw[hl] at hs
 obtain⟨x,y,z,rfl,h1,h2,h3⟩:=jP hs
 obtain⟨a,rfl,_⟩:=wO h.i h1
 obtain⟨b,rfl,_⟩:=wO h.i h2
 obtain⟨c,rfl⟩:=zg8 h.b h3
 exact⟨⟨a,b,c⟩,rfl⟩
theorem zkW (h:TermTypes P tI tB tS tT tLT tR tLR tC tLC tO) {n:Nat} {r:List C} (hr:yC P n tO r): ∃x:Order,r=wF x:=by
 obtain⟨fs,hf,hl⟩:=h.o
 obtain⟨m,rs,rfl,rfl,hs⟩:=tN hf hr
 rw[hl] at hs
 obtain⟨x,y,z,u,rfl,h1,h2,h3,h4⟩:=zkS hs
 obtain⟨a,rfl,_⟩:=mH h.s h1
 obtain⟨b,rfl⟩:=zg8 h.b h2
 obtain⟨_,rows,_,rfl,_,h5⟩:=uC h.lc.1 h3
 obtain⟨_,rows',_,rfl,_,h6⟩:=uC h.lr.1 h4
 obtain⟨l,rfl⟩:=tP vF (fun r hr=>zkV h hr) rows h5
 obtain⟨l',rfl⟩:=tP wX (fun r hr=>zkU h hr) rows' h6
 exact⟨⟨a,b,l,l'⟩,by rw[h.lc.2,h.lr.2];rfl⟩
end
section
variable {P : Program}
end
end Go.Abs
set_option maxRecDepth 10000
namespace Go
open Go.RowKit
def uD (bs:Nat) (W W':World):Prop:=W'.heap[bs]?=W.heap[bs]?
def zg9 {α:Type} (F:Fence) (n:Nat) (P:Program) (g:Nat) (lb:Array Value) (encs:α→Array Value) (bs:Nat) (S:List α→Prop) (N:Nat) (w:World):Prop:=
 ∀(l:Nat) (J:List α→World→Prop) (W:World),Below w.heap.size w W→(∀pre W1 v,J pre W1→J pre (W1.setCell ⟨bs,0,none⟩ v))→(∀pre W1,J pre W1→J pre W1.drew)→
  (∀pre x W1,J pre W1→pre.length<N→YieldAt F (n-1) P l (encs x) W1 fun e W'=>e=.returned (.bool true)∧J (pre++[x]) W'∧uD bs W1 W')→
  J [] W→
  CallsIn F n P g (#[.func (.yield l) #[] #[]]++lb) W fun e W'=>(∃v,e=.returned v)∧ ∃xs,S xs∧J xs W'
def zkX {α:Type} (bs:Nat) (I:List α→World→Prop) (xs:List α) (W:World):Exit→Act→World→Prop
 | .normal,_,W'=>KeepsOthers W W'∧uD bs W W'∧I xs W'
 |_,_,_=>False
variable {F : Fence} {n : Nat} {P : Program}
theorem zkY {α:Type} {g:Operand} {ps:Array Tmp} {assign body:Code} {Q:Exit→Act→World→Prop} {a:Act} {w:World}
  (hro:F.round=none) (h1:1≤n) {gf:Nat} {lb:Array Value} (hg:a.eval g=.func (.func gf) #[] lb) (hFg:F.fn gf) (eg: ∀args w,(callFunc gf args).run P w=.ok (.enter gf args) w)
  {encs:α→Array Value} {bs:Nat} {S:List α→Prop} {N:Nat} {w0:World} (hseq:zg9 F (n-1) P gf lb encs bs S N w0) (hbs:bs<w.heap.size) (hb0:Below w0.heap.size w0 w) (hps: ∀x,(encs x).size=ps.size)
  (I:List α→World→Prop) (hI:OwnFrom w.heap.size I) (hIB: ∀pre W v,I pre W→I pre (W.setCell ⟨bs,0,none⟩ v)) (hID: ∀pre W,I pre W→I pre W.drew) (h0:I [] w) (a₁:α→Act)
  (hassign: ∀(l:Nat) (x:α) (W:World) (K:Act→World→Prop),K (a₁ x) W→
   assign.wpIn (F.inRound l) (n-1-1) P (Exit.then K (fun _ _ _=>False)) {tmps:=(ps.zip (encs x)).foldl (fun t (p,v)=>t.setIfInBounds p v) a.tmps,defers:=[]} W)
  (hbody: ∀(l:Nat) (pre:List α) (x:α) (W:World),I pre W→pre.length<N→body.wpIn (F.inRound l) (n-1-1) P (zkX bs I (pre++[x]) W) (a₁ x) W)
  (hdone: ∀(D:Nat) (xs:List α) (W:World),w.heap.size≤D→S xs→I xs W→W.heap[D]?=some (.deferred (some []))→Q .normal {a with defers:={target:=.collected D,args:= #[]}::a.defers} W):
  (Code.rangeFunc g ps assign body).wpIn F n P Q a w:=by
 refine wpIn_rangeFunc ?_
 intro fn hfn
 rw[hro]
 obtain⟨rec,hrec⟩: ∃rec:LoopState→Option Code→Loop,rec=fun st pe=>{state:=st,pending:=pe,fn,tmps:=a.tmps,params:=ps,assign,body,defers:=w.heap.size}:=⟨_,rfl⟩
 obtain⟨W1,hW1⟩: ∃W1,(w.alloc (.deferred (some []))).alloc (.loop (rec .ready none))=W1:=⟨_,rfl⟩
 have hL1:W1.heap[w.heap.size+1]?=some (.loop (rec .ready none)):=by
  rw[←hW1];have:=World.alloc_heap_new (w.alloc (.deferred (some []))) (.loop (rec .ready none));rwa [World.size_alloc] at this
 have hK1:W1.heap[w.heap.size]?=some (.deferred (some [])):=by
  rw[←hW1];exact(Below.heap_alloc _ _ _ (by simp)).trans (World.alloc_heap_new w _)
 have hI1:I [] W1:=by rw[←hW1];exact hI.alloc _ (hI.alloc _ h0)
 have hb1:Below w0.heap.size w0 W1:=by
  rw[←hW1];exact hb0.trans ((((Below.refl _ w).alloc (Nat.le_refl _) _).alloc (by simp) _).mono hb0.size)
 refine⟨w.heap.size+1,[{target:=.collected w.heap.size,args:= #[]}],W1,{target:=.fn (.func gf) lb,args:= #[.func (.yield (w.heap.size+1)) #[] #[]]},W1,gf,
  #[.func (.yield (w.heap.size+1)) #[] #[]]++lb,W1,?_,?_,?_,?_,fun _=>h1,?_⟩
 ·rw[←hW1,hrec];exact run_enterLoop_outer _ _ _ _ _
 ·simp only[resolve,hg]
  simp[go_sem]
 ·intro f' hf';simp[Target.leads] at hf';subst hf';exact hFg
 ·simp[invoke,go_sem,eg]
 ·refine(hseq (w.heap.size+1)
   (fun pre W=>I pre W∧W.heap[w.heap.size+1]?=some (.loop (rec .ready none))∧W.heap[w.heap.size]?=some (.deferred (some [])))
   W1 hb1
   (fun pre A v hs=>⟨hIB pre A v hs.1,(Below.heap_setCell _ _ _ _ (show w.heap.size+1≠bs by omega)).trans hs.2.1,(Below.heap_setCell _ _ _ _ (show w.heap.size≠bs by omega)).trans hs.2.2⟩)
   (fun pre A hs=>⟨hID pre A hs.1,hs.2.1,hs.2.2⟩)
   ?_ ⟨hI1,hL1,hK1⟩).mono ?_
  ·rintro pre x W ⟨hi,hl,hk⟩ hlen
   have hlt:w.heap.size+1<W.heap.size:=(Array.getElem?_eq_some_iff.1 hl).1
   have hy:=run_yield (P:=P) (args:=encs x) hl (by rw[hrec];exact hps x)
   rw[hrec] at hy
   refine⟨fn,_,assign,body,hy,roundIn_of_wpIn hfn (hassign _ x W _ ⟨_,run_beginRound hl (by rw[hrec]),?_⟩)⟩
   have hl2:(W.putObj (w.heap.size+1) (.loop {rec .ready none with state:=.busy})).heap[w.heap.size+1]?=some (.loop {rec .ready none with state:=.busy}):=World.putObj_heap_same hlt
   have hk2:(W.putObj (w.heap.size+1) (.loop {rec .ready none with state:=.busy})).heap[w.heap.size]?=some (.deferred (some [])):=(World.putObj_heap_other (by omega)).trans hk
   have hw2:uD bs W (W.putObj (w.heap.size+1) (.loop {rec .ready none with state:=.busy})):=World.putObj_heap_other (show bs≠w.heap.size+1 by omega)
   refine wpIn_mono (hbody _ pre x _ (hI.putObj _ hi (by omega) hl rfl) hlen) ?_
   rintro e a3 W3 hp
   cases e with
   |normal=>
    obtain⟨hk3,hkp3,hi3⟩:=hp
    have hl3:=hk3.same _ _ hl2 rfl
    have hr:=run_endRound (P:=P) none hl3
    rw[hrec] at hr hl3
    refine⟨_,_,hr,rfl,⟨hI.putObj _ hi3 (by omega) (hk3.same _ _ hl2 rfl) rfl,?_,(World.putObj_heap_other (by omega)).trans (hk3.same _ _ hk2 rfl)⟩,?_⟩
    ·rw[hrec];exact World.putObj_heap_same (Array.getElem?_eq_some_iff.1 hl3).1
    ·show _=_
     rw[World.putObj_heap_other (show bs≠w.heap.size+1 by omega)]
     exact Eq.trans hkp3 hw2
   |ret=>exact hp.elim
   |exit id=>exact hp.elim
   |goto t=>exact hp.elim
   |panic ch=>exact hp.elim
   |outgrown=>exact hp.elim
  ·rintro e W2 ⟨⟨v,rfl⟩,xs,hS,hi,hl,hk⟩
   exact⟨none,_,by have:=run_endLoop (P:=P) hl (by rw[hrec];simp);rw[hrec] at this;exact this,hdone _ xs _ (Nat.le_refl _) hS (hI.putObj _ hi (by omega) hl rfl) ((World.putObj_heap_other (by omega)).trans hk)⟩
end Go
set_option maxRecDepth 100000
namespace Go.Proofs
open Go.Shelf Go.RowKit
def Tryz.laysIdxB_ren:Go.Shelf.Ren:=
 {
  f:=fun x=>
   match x with
   |137=>64
   |217=>97
   |266=>122
   |n=>n,
  t:=fun x=>
   match x with
   |9=>9
   |5=>5
   |3=>3
   |n=>n,
  g:=fun n=>n}
theorem Tryz.laysIdxB:Go.Proofs.Lays.n137 Go.Proofs.Tryz.prog Go.Proofs.Tryz.laysIdxB_ren:=
 {mixed:=by kernel_rfl,
  f137:=Eq.trans Go.Proofs.Tryz.func64 (congrArg some (Eq.refl (Go.Proofs.Body.n137 Go.Proofs.Tryz.laysIdxB_ren))),
  f217:=Eq.trans Go.Proofs.Tryz.func97 (congrArg some (Eq.refl (Go.Proofs.Body.n217 Go.Proofs.Tryz.laysIdxB_ren))),
  f266:=Eq.trans Go.Proofs.Tryz.func122 (congrArg some (Eq.refl (Go.Proofs.Body.n266 Go.Proofs.Tryz.laysIdxB_ren))),
  t3:=Go.Proofs.Tryz.underlying3,a3:=Go.Proofs.Tryz.isAgg3,z3:=Go.Proofs.Tryz.sizeOf3,
  v3:=Go.Proofs.Tryz.zeroValue3,t5:=Go.Proofs.Tryz.underlying5,a5:=Go.Proofs.Tryz.isAgg5,
  z5:=Go.Proofs.Tryz.sizeOf5,v5:=Go.Proofs.Tryz.zeroValue5,t9:=Go.Proofs.Tryz.underlying9,
  a9:=Go.Proofs.Tryz.isAgg9,z9:=Go.Proofs.Tryz.sizeOf9,v9:=Go.Proofs.Tryz.zeroValue9}
end Go.Proofs
set_option maxRecDepth 10000
namespace Go.Wire
open Go.Lib
abbrev Txt:=List UInt8
theorem cE {d:Nat} (h:d<10):(UInt8.ofNat (48+d)).toNat=48+d:=by
 rw[UInt8.toNat_ofNat'];omega
theorem mI {u:Nat} (h:u<10):decDigits u=[UInt8.ofNat (48+u)]:=by rw[decDigits,dif_pos h]
theorem jQ {u:Nat} (h: ¬u<10):decDigits u=decDigits (u/10)++[UInt8.ofNat (48+u % 10)]:=by rw[decDigits,dif_neg h]
theorem zha (u:Nat): ∀c,c∈decDigits u→48≤c.toNat∧c.toNat≤57:=by
 induction u using Nat.strongRecOn with
 |_ u ih=>
  intro c hc
  by_cases h:u<10
  ·rw[mI h,List.mem_singleton] at hc
   subst hc
   rw[cE h];omega
  ·rw[jQ h,List.mem_append,List.mem_singleton] at hc
   rcases hc with hc|rfl
   ·exact ih (u/10) (by omega) c hc
   ·rw[cE (by omega)];omega
theorem cF (u:Nat):decDigits u≠[]:=by
 by_cases h:u<10
 ·rw[mI h];simp
 ·rw[jQ h];simp
theorem dec_len: ∀(k u:Nat),u<10 ^ (k+1)→(decDigits u).length≤k+1
 |0,u,h=>by rw[mI (by simpa using h)];simp
 |k+1,u,h=>by
  by_cases h10:u<10
  ·rw[mI h10];simp
  ·rw[jQ h10,List.length_append]
   have:=dec_len k (u/10) (by rw[Nat.pow_succ] at h;omega)
   simp only[List.length_singleton];omega
theorem zhb: ∀(l1 l2:Txt) (acc u:Nat),parseUint10 acc l1=.ok u→parseUint10 acc (l1++l2)=parseUint10 u l2
 |[],l2,acc,u,h=>by
  simp only[parseUint10] at h
  injection h with h
  rw[h];rfl
 |c::r,l2,acc,u,h=>by
  simp only[parseUint10] at h
  simp only[List.cons_append,parseUint10]
  split at h
  ·rename_i h1
   rw[if_pos h1]
   split at h
   ·cases h
   ·rename_i h2
    rw[if_neg h2]
    split at h
    ·cases h
    ·rename_i h3
     rw[if_neg h3]
     exact zhb r l2 _ u h
  ·cases h
theorem zhc {acc d:Nat} (hd:d<10) (h:acc*10+d<18446744073709551616):parseUint10 acc [UInt8.ofNat (48+d)]=.ok (acc*10+d):=by
 simp only[parseUint10,cE hd]
 rw[if_pos (by omega),if_neg (by omega),if_neg (by omega)]
 congr 1;omega
theorem zkZ (u:Nat) (hu:u<18446744073709551616):parseUint10 0 (decDigits u)=.ok u:=by
 induction u using Nat.strongRecOn with
 |_ u ih=>
  by_cases h:u<10
  ·rw[mI h,zhc h (by omega)];congr 1;omega
  ·rw[jQ h,zhb _ _ 0 (u/10) (ih (u/10) (by omega) (by omega)),zhc (by omega) (by omega)]
   congr 1;omega
def inI (n:Int):Prop:= -9223372036854775808≤n∧n≤9223372036854775807
theorem zhd (u:Nat) (hu:u<18446744073709551616):parseMag (decDigits u)=.ok u:=by
 rw[parseMag,if_neg (cF u),zkZ u hu]
theorem zhe {n:Int} (h:inI n):atoiAll (itoa n)=.ok n:=by
 unfold itoa
 by_cases hn:n<0
 ·rw[if_pos hn]
  have h1:=zhd n.natAbs (by have:=h.1;omega)
  have e45:(45:UInt8).toNat=45:=rfl
  have h2:=h.1
  simp only[atoiAll,e45,true_or,or_true,if_true,h1]
  rw[if_neg (by simp),if_neg (by omega)]
  congr 1;omega
 ·rw[if_neg hn]
  have h1:=zhd n.toNat (by have:=h.2;omega)
  have hd:=zha n.toNat
  have h2:=h.2
  cases hl:decDigits n.toNat with
  |nil=>exact absurd hl (cF _)
  |cons c r=>
   rw[hl] at h1 hd
   have hc:=hd c (by simp)
   have e1: ¬c.toNat=43:=by omega
   have e2: ¬c.toNat=45:=by omega
   simp only[atoiAll,e1,e2,or_self,if_false,h1,not_false_eq_true,true_and,false_and]
   rw[if_neg (by omega)]
   congr 1;omega
def wI (n:Int):Txt:=itoa n++[59]
end Go.Wire
set_option maxRecDepth 10000
namespace Go.Wd
open Go.Lib Go.Wire
def cutC (c:UInt8):Txt→List Txt
 |[]=>[[]]
 |x::t=>if x=c then[]::cutC c t else match cutC c t with
  |[]=>[[x]]
  |w::r=>(x::w)::r
theorem mJ (c:UInt8): ∀t,cutC c t≠[]
 |[]=>by simp[cutC]
 |x::t=>by
  unfold cutC
  split
  ·simp
  ·cases cutC c t<;>simp
theorem cutC_word {c:UInt8}: ∀{w:Txt},c ∉ w→cutC c w=[w]
 |[],_=>rfl
 |x::t,h=>by
  have h1:x≠c:=fun e=>h (by simp[e])
  have h2:c ∉ t:=fun e=>h (by simp[e])
  rw[cutC,if_neg h1,cutC_word h2]
theorem cutC_app {c:UInt8}: ∀{w:Txt} (t:Txt),c ∉ w→cutC c (w++c::t)=w::cutC c t
 |[],t,_=>by rw[List.nil_append,cutC,if_pos rfl]
 |x::w,t,h=>by
  have h1:x≠c:=fun e=>h (by simp[e])
  have h2:c ∉ w:=fun e=>h (by simp[e])
  rw[List.cons_append,cutC,if_neg h1,cutC_app t h2]
def zT (c:UInt8):List Txt→Txt
 |[]=>[]
 |[w]=>w
 |w::v::r=>w++c::zT c (v::r)
theorem cG {c:UInt8}: ∀{l:List Txt},l≠[]→(∀w∈l,c ∉ w)→cutC c (zT c l)=l
 |[],h,_=>absurd rfl h
 |[w],_,h=>cutC_word (h w (by simp))
 |w::v::r,_,h=>by
  rw[zT,cutC_app _ (h w (by simp)),cG (by simp) (fun x hx=>h x (List.mem_cons_of_mem _ hx))]
theorem jR {c x:UInt8}: ∀{l:List Txt},x∈zT c l→x=c∨ ∃w∈l,x∈w
 |[],h=>by simp[zT] at h
 |[w],h=> .inr ⟨w,by simp,h⟩
 |w::v::r,h=>by
  rw[zT,List.mem_append,List.mem_cons] at h
  rcases h with h|h|h
  ·exact .inr ⟨w,by simp,h⟩
  ·exact .inl h
  ·rcases jR h with h|⟨u,hu,h⟩
   ·exact .inl h
   ·exact .inr ⟨u,List.mem_cons_of_mem _ hu,h⟩
def xJ (t:Txt):List Txt:=if t=[] then[] else if (cutC 10 t).getLastD []=[] then(cutC 10 t).dropLast else cutC 10 t
theorem zhf:xJ []=[]:=rfl
theorem zk0 {w:Txt} (h0:w≠[]) (h:(10:UInt8) ∉ w):xJ w=[w]:=by
 unfold xJ
 rw[if_neg h0,cutC_word h]
 simp[h0]
theorem zhg {w:Txt} (t:Txt) (h:(10:UInt8) ∉ w):xJ (w++10::t)=w::xJ t:=by
 unfold xJ
 rw[if_neg (by simp),cutC_app t h]
 cases ht:cutC 10 t with
 |nil=>exact absurd ht (mJ 10 t)
 |cons a r=>
  by_cases e:t=[]
  ·subst e
   rw[cutC] at ht
   injection ht with h1 h2
   subst h1;subst h2
   simp
  ·rw[if_neg e]
   simp only[List.getLastD_cons]
   by_cases hz:r.getLastD a=[]
   ·rw[if_pos hz,if_pos (by simpa using hz),List.dropLast_cons_of_ne_nil (by simp)]
   ·rw[if_neg hz,if_neg (by simpa using hz)]
def yH (L:List (List Txt)):Txt:=(L.map fun ws=>zT 32 ws++[10]).flatten
def cleanL (L:List (List Txt)):Prop:= ∀ws∈L,ws≠[]∧ ∀w∈ws,(32:UInt8) ∉ w∧(10:UInt8) ∉ w
theorem zhh: ∀{L:List (List Txt)},cleanL L→xJ (yH L)=L.map (zT 32)
 |[],_=>rfl
 |ws::L,h=>by
  have h1:(10:UInt8) ∉ zT 32 ws:=fun hm=>by
   rcases jR hm with e|⟨w,hw,e⟩
   ·exact absurd e (by decide)
   ·exact((h ws (by simp)).2 w hw).2 e
  have ih:=zhh (L:=L) fun v hv=>h v (List.mem_cons_of_mem _ hv)
  unfold yH at ih⊢
  rw[List.map_cons,List.flatten_cons,List.append_assoc]
  have e:zT 32 ws++([10]++(L.map fun ws=>zT 32 ws++[10]).flatten)=zT 32 ws++10::(L.map fun ws=>zT 32 ws++[10]).flatten:=rfl
  rw[e,zhg _ h1,ih];rfl
theorem zk1 {L:List (List Txt)} (h:cleanL L):(xJ (yH L)).map (cutC 32)=L:=by
 rw[zhh h,List.map_map]
 conv=>rhs;rw[←List.map_id L]
 exact List.map_congr_left fun ws hw=>cG (h ws hw).1 fun w hm=>((h ws hw).2 w hm).1
def cH (c:UInt8):Bool:=(decide (97≤c.toNat∧c.toNat≤122)||decide (65≤c.toNat∧c.toNat≤90))||(decide (c.toNat=95)||decide (48≤c.toNat∧c.toNat≤57))
def qQ (w:Txt):Prop:=w≠[]∧ ∀c∈w,cH c=true
theorem qR {w:Txt} (h:qQ w):(32:UInt8) ∉ w∧(10:UInt8) ∉ w∧(45:UInt8) ∉ w:=
 ⟨fun e=>absurd (h.2 _ e) (by decide),fun e=>absurd (h.2 _ e) (by decide),fun e=>absurd (h.2 _ e) (by decide)⟩
theorem oS (u:Nat):qQ (decDigits u):=⟨cF u,fun c hc=>by
 have:=zha u c hc
 unfold cH
 simp[this]⟩
def numberP (s:Txt):Int:=match atoiAll s with
 | .ok v=>if v<0∨s.length>13 then-1 else v
 |_=> -1
def dec (n:Int):Txt:=decDigits n.toNat
theorem cI {n:Int} (h:0≤n):itoa n=dec n:=by unfold itoa dec;rw[if_neg (by omega)]
theorem rM {n:Int} (h0:0≤n) (h1:n<10000000000000):numberP (dec n)=n:=by
 unfold numberP
 have hi:=zhe (n:=n) ⟨by omega,by omega⟩
 rw[cI h0] at hi
 rw[hi]
 have hl:=dec_len 12 n.toNat (by omega)
 show(if n<0∨(decDigits n.toNat).length>13 then(-1:Int) else n)=n
 rw[if_neg (by omega)]
structure Ten where
 k:Int
 n:Int
 u:Int
 deriving DecidableEq
structure Bil where
 dr:Int
 de:Int
 pa:Int
 su:Int
 cu:Int
 te:Ten
 da:Int
 ci:Int
 py:Int
 ne:Int
 ra:Int
 fl:Int
 pt:Int
 deriving DecidableEq
structure Nms where
 cu:List Txt
 ci:List Txt
 fi:List Txt
def nm (l:List Txt) (i:Int):Txt:=l.getD i.toNat []
def inR (l:List Txt) (i:Int):Prop:=0≤i∧i<l.length
def bit (k fl:Int):Bool:=decide (fl/k % 2=1)
structure Cal where
 date:Int→Int×Int×Int
 day:Int→Int→Int→Int
structure CalOk (C:Cal):Prop where
 y: ∀d,0≤d→d≤100000→0≤(C.date d).1∧(C.date d).1<10000000000000
 m: ∀d,0≤d→d≤100000→0≤(C.date d).2.1∧(C.date d).2.1<10000000000000
 d: ∀d,0≤d→d≤100000→0≤(C.date d).2.2∧(C.date d).2.2<10000000000000
 back: ∀d,0≤d→d≤100000→C.day (C.date d).1 (C.date d).2.1 (C.date d).2.2=d
def wG (C:Cal) (d:Int):Txt:=zT 45 [dec (C.date d).1,dec (C.date d).2.1,dec (C.date d).2.2]
def sH (C:Cal) (s:Txt):Int:=match cutC 45 s with
 |[a,b,c]=>C.day (numberP a) (numberP b) (numberP c)
 |_=> -1
theorem zhi {C:Cal} (hC:CalOk C) {d:Int} (h0:0≤d) (h1:d≤100000):sH C (wG C d)=d:=by
 unfold sH wG
 rw[cG (by simp) (fun w hw=>by
  simp only[List.mem_cons,List.not_mem_nil,or_false] at hw
  rcases hw with rfl|rfl|rfl<;>exact(qR (oS _)).2.2)]
 show C.day _ _ _=d
 rw[rM (hC.y d h0 h1).1 (hC.y d h0 h1).2,rM (hC.m d h0 h1).1 (hC.m d h0 h1).2,rM (hC.d d h0 h1).1 (hC.d d h0 h1).2,hC.back d h0 h1]
theorem zhj {C:Cal} (d:Int):(32:UInt8) ∉ wG C d∧(10:UInt8) ∉ wG C d:=by
 constructor<;>intro hm<;>rcases jR hm with e|⟨w,hw,e⟩
 ·exact absurd e (by decide)
 ·simp only[List.mem_cons,List.not_mem_nil,or_false] at hw
  rcases hw with rfl|rfl|rfl<;>exact(qR (oS _)).1 e
 ·exact absurd e (by decide)
 ·simp only[List.mem_cons,List.not_mem_nil,or_false] at hw
  rcases hw with rfl|rfl|rfl<;>exact(qR (oS _)).2.1 e
def wP (C:Cal) (t:Ten):List Txt:=
 if t.k=0 then[[112,97,121],[97,116],[115,105,103,104,116]]
 else if t.k=3 then[[112,97,121],[111,110],wG C t.n]
 else if t.k=4 then[[112,97,121],[97,116],[117,115,97,110,99,101]]
 else[[112,97,121],dec t.n,if t.u=1 then[109,111,110,116,104,115] else[100,97,121,115],[97,102,116,101,114],if t.k=2 then[100,97,116,101] else[115,105,103,104,116]]
def vV (pt part:Int):List Int:=((List.range pt.toNat).map Int.ofNat).filter fun i=>decide (i≠part)
def orW:List Txt→List Txt
 |[]=>[]
 |[w]=>[w]
 |w::v::r=>w::[111,114]::orW (v::r)
def vJ (pt part:Int):List Txt:=orW ((vV pt part).map fun i=>dec (i+1))
def rows (C:Cal) (N:Nms) (b:Bil) (p:Int):List (List Txt):=
 [[if bit 1 b.fl=true then[98,105,108,108] else[112,97,112,101,114],dec (p+1),[111,102],dec b.pt],
  [[100,114,97,119,110],[105,110],nm N.ci b.ci,[111,110],wG C b.da],
  wP C b.te,
  if b.pa= -1 then[[116,111],[98,101,97,114,101,114]] else if bit 4 b.fl=true then[[116,111],nm N.fi b.pa,[110,111,116],[116,111],[111,114,100,101,114]] else[[116,111],nm N.fi b.pa,[111,114],[111,114,100,101,114]],
  if b.ra=0 then[dec b.su,nm N.cu b.cu] else[dec b.su,nm N.cu b.cu,[119,105,116,104],[105,110,116,101,114,101,115,116],[97,116],dec b.ra,[112,101,114],[109,105,108,108,101]],
  [[116,111],[98,101],[112,97,105,100],[98,121],nm N.fi b.de,[105,110],nm N.ci b.py]]
 ++((if b.pt>1 then[[117,110,108,101,115,115]::[112,97,114,116]::(vJ b.pt p++[[119,97,115],[112,97,105,100]])] else[])
 ++((if b.ne= -1 then[] else[[[105,110],[110,101,101,100],[97,115,107],nm N.fi b.ne]])
 ++((if bit 2 b.fl=true then[[[119,105,116,104,111,117,116],[112,114,111,116,101,115,116]]] else[])++[[[115,105,103,110,101,100],nm N.fi b.dr]])))
def wd (l:List Txt) (i:Nat):Txt:=l.getD i []
def fstI (l:List Txt) (s:Txt):Int:=match l.findIdx? (fun x=>decide (x=s)) with
 |some i=>i
 |none=> -1
def wQ:List Txt→Txt→Int→Int→Int
 |[],_,_,r=>r
 |x::l,s,i,r=>wQ l s (i+1) (if x=s then i else r)
def whenP (C:Cal) (l:List Txt):Ten:=
 if wd l 1=[111,110] then⟨3,sH C (wd l 2),0⟩
 else if wd l 2=[117,115,97,110,99,101] then⟨4,0,0⟩
 else if wd l 3=[97,102,116,101,114] then⟨if wd l 4=[100,97,116,101] then 2 else 1,numberP (wd l 1),if wd l 2=[109,111,110,116,104,115] then 1 else 0⟩
 else⟨0,0,0⟩
structure Lst where
 ne:Int
 np:Bool
 dr:Int
def restP (N:Nms):List (List Txt)→Lst→Lst
 |[],s=>s
 |l::r,s=>restP N r (if wd l 0=[105,110] then⟨fstI N.fi (wd l 3),s.np,s.dr⟩ else if wd l 0=[119,105,116,104,111,117,116] then⟨s.ne,true,s.dr⟩ else if wd l 0=[115,105,103,110,101,100] then⟨s.ne,s.np,fstI N.fi (wd l 1)⟩ else s)
def xK (C:Cal) (N:Nms) (L:List (List Txt)):Bil×Int:=
 let l0:=L.getD 0 []
 let l1:=L.getD 1 []
 let l2:=L.getD 2 []
 let l3:=L.getD 3 []
 let l4:=L.getD 4 []
 let l5:=L.getD 5 []
 let s:=restP N (L.drop 6) ⟨-1,false,0⟩
 let word:=decide (wd l0 0=[98,105,108,108])
 let three:=decide (l3.length>2)
 let no:=three&&decide (wd l3 2=[110,111,116])
 (⟨s.dr,fstI N.fi (wd l5 4),if three=true then fstI N.fi (wd l3 1) else-1,numberP (wd l4 0),wQ N.cu (wd l4 1) 0 (-1),whenP C l2,sH C (wd l1 4),fstI N.ci (wd l1 2),fstI N.ci (wd l5 6),s.ne,
   max 0 (numberP (wd l4 5)),(if word=true then 1 else 0)+(if s.np=true then 2 else 0)+(if no=true then 4 else 0),numberP (wd l0 3)⟩,numberP (wd l0 1)-1)
structure NmsOk (N:Nms):Prop where
 cu:(∀w∈N.cu,qQ w)∧N.cu.Nodup
 ci:(∀w∈N.ci,qQ w)∧N.ci.Nodup
 fi:(∀w∈N.fi,qQ w)∧N.fi.Nodup
def wB (te:Ten) (da:Int):Prop:=
 ((te.k=0∨te.k=4)∧te.n=0∧te.u=0)∨((te.k=1∨te.k=2)∧1≤te.n∧te.n≤400∧(te.u=0∨te.u=1))∨(te.k=3∧da≤te.n∧te.n≤100000∧te.u=0)
structure BilOk (N:Nms) (b:Bil):Prop where
 dr:inR N.fi b.dr
 de:inR N.fi b.de
 pa:b.pa= -1∨inR N.fi b.pa
 ne:b.ne= -1∨inR N.fi b.ne
 cu:inR N.cu b.cu
 ci:inR N.ci b.ci
 py:inR N.ci b.py
 su:1≤b.su∧b.su≤1099511627776
 da:0≤b.da∧b.da≤100000
 ra:0≤b.ra∧b.ra≤1000
 pt:1≤b.pt∧b.pt≤4
 fl:0≤b.fl∧b.fl≤7
 no: ¬(bit 4 b.fl=true∧b.pa= -1)
 te:wB b.te b.da
theorem zhk {l:List Txt} {i:Int} (h:inR l i):nm l i∈l:=by
 unfold nm
 have h1:i.toNat<l.length:=by have:=h.1;have:=h.2;omega
 simp[List.getD,h1]
theorem oT {l:List Txt} (hd:l.Nodup) {i:Int} (h:inR l i):fstI l (nm l i)=i:=by
 have h1:i.toNat<l.length:=by have:=h.1;have:=h.2;omega
 have e:nm l i=l[i.toNat]:=by simp[nm,List.getD,h1]
 have hf:l.findIdx? (fun x=>decide (x=nm l i))=some i.toNat:=by
  rw[List.findIdx?_eq_some_iff_getElem]
  refine⟨h1,by simp[e],fun j hj=>?_⟩
  simp only[decide_eq_true_eq]
  intro hx
  rw[e] at hx
  exact absurd hx (List.pairwise_iff_getElem.1 hd j i.toNat (by omega) h1 hj)
 unfold fstI
 rw[hf]
 show((i.toNat:Nat):Int)=i
 have:=h.1
 omega
theorem zhl: ∀{l:List Txt} {s:Txt} (i r:Int),s ∉ l→wQ l s i r=r
 |[],_,_,_,_=>rfl
 |x::l,s,i,r,h=>by
  rw[wQ,if_neg (fun e=>h (by simp[e])),zhl _ _ (fun e=>h (List.mem_cons_of_mem _ e))]
theorem zhm: ∀{l:List Txt} (k:Nat) (h:k<l.length) (i r:Int),l.Nodup→wQ l l[k] i r=i+k
 |x::l,0,h,i,r,hd=>by
  rw[wQ,List.getElem_cons_zero,if_pos rfl,zhl _ _ (List.nodup_cons.1 hd).1];simp
 |x::l,k+1,h,i,r,hd=>by
  have h1:k<l.length:=by simpa using h
  rw[wQ,List.getElem_cons_succ,if_neg (fun e=>(List.nodup_cons.1 hd).1 (by rw[e];exact List.getElem_mem h1)),zhm k h1 _ _ (List.nodup_cons.1 hd).2]
  push_cast;omega
theorem zk2 {l:List Txt} (hd:l.Nodup) {i:Int} (h:inR l i):wQ l (nm l i) 0 (-1)=i:=by
 have h1:i.toNat<l.length:=by have:=h.1;have:=h.2;omega
 have e:nm l i=l[i.toNat]:=by simp[nm,List.getD,h1]
 rw[e,zhm _ h1 _ _ hd]
 have:=h.1
 omega
theorem fstI_no {l:List Txt} {s:Txt} (h:s ∉ l):fstI l s= -1:=by
 unfold fstI
 have:l.findIdx? (fun x=>decide (x=s))=none:=by
  rw[List.findIdx?_eq_none_iff]
  intro x hx
  simp only[decide_eq_false_iff_not]
  rintro rfl
  exact h hx
 rw[this]
theorem zk3 {n:Int} {w:Txt} (h0:0≤n) (hw: ∀v,atoiAll w≠.ok v) (h:n≤9223372036854775807):dec n≠w:=fun e=>by
 have hi:=zhe (n:=n) ⟨by omega,by omega⟩
 rw[cI h0,e] at hi
 exact hw _ hi
end Go.Wd
set_option maxRecDepth 100000
set_option maxHeartbeats 4000000
namespace Go.Abs
open Go.Proofs Go.RowKit
abbrev Txt:=List UInt8
structure Cty where
 name:Txt
 ord:Int
 cur:Int
 rest:List Int
 feasts:List Int
 shut:List Int
structure Frm where
 name:Txt
 ci:Int
 gr:Int
structure T3 where
 a:Int
 b:Int
 c:Int
structure T5 where
 a:Int
 b:Int
 c:Int
 d:Int
 e:Int
structure Rlm where
 cur:List Txt
 cities:List Cty
 groups:List Int
 firms:List Frm
 orders:List Order
 usances:List T3
 rates:List T5
 halts:List T3
def zE (l:List Txt):List (List C):=l.map fun s=>[.str s]
def xL (c:Cty):List C:=[.str c.name,.int .i64 c.ord,.int .i64 c.cur,zB 1 (zN c.rest),zB 1 (zN c.feasts),zB 1 (zN c.shut)]
def tQ (c:Frm):List C:=[.str c.name,.int .i64 c.ci,.int .i64 c.gr]
def tU (c:T3):List C:=[.int .i64 c.a,.int .i64 c.b,.int .i64 c.c]
def oU (c:T5):List C:=[.int .i64 c.a,.int .i64 c.b,.int .i64 c.c,.int .i64 c.d,.int .i64 c.e]
def xW (l:List Cty):List (List C):=l.map xL
def xX (l:List Frm):List (List C):=l.map tQ
def wK (l:List Order):List (List C):=l.map wF
def t3s (l:List T3):List (List C):=l.map tU
def t5s (l:List T5):List (List C):=l.map oU
def zS (r:Rlm):List C:=[zB 1 (zE r.cur),zB 6 (xW r.cities),zB 1 (zN r.groups),zB 3 (xX r.firms),zB 4 (wK r.orders),zB 3 (t3s r.usances),zB 5 (t5s r.rates),zB 3 (t3s r.halts)]
theorem zK (l:List Txt):(zE l).length=l.length:=by simp[zE]
theorem yE (l:List Cty):(xW l).length=l.length:=by simp[xW]
theorem yW (l:List Frm):(xX l).length=l.length:=by simp[xX]
theorem xH (l:List Order):(wK l).length=l.length:=by simp[wK]
theorem xB (l:List T3):(t3s l).length=l.length:=by simp[t3s]
theorem vW (l:List T5):(t5s l).length=l.length:=by simp[t5s]
theorem zom {l:List Txt} {i:Nat} (h:i<l.length):(zE l).getD i []=[.str l[i]]:=by simp[zE,h]
theorem mK {l:List Cty} {i:Nat} (h:i<l.length):(xW l).getD i []=xL l[i]:=by simp[xW,h]
theorem cJ {l:List Frm} {i:Nat} (h:i<l.length):(xX l).getD i []=tQ l[i]:=by simp[xX,h]
theorem jS {l:List Order} {i:Nat} (h:i<l.length):(wK l).getD i []=wF l[i]:=by simp[wK,h]
theorem zhn {l:List T3} {i:Nat} (h:i<l.length):(t3s l).getD i []=tU l[i]:=by simp[t3s,h]
theorem zk4 {l:List T5} {i:Nat} (h:i<l.length):(t5s l).getD i []=oU l[i]:=by simp[t5s,h]
theorem yT (l:List Txt):C.normRows (zE l)=zE l:=vN (fun _=>rfl) l
theorem cK (l:List Int):(zB 1 (zN l)).norm=zB 1 (zN l):=tL (fun _=>rfl) 1 l
theorem zk5 (l:List Txt):(zB 1 (zE l)).norm=zB 1 (zE l):=tL (fun _=>rfl) 1 l
theorem rN (c:Cty):C.normRow (xL c)=xL c:=by simp[xL,C.normRow,C.norm,cK]
theorem zho (c:Frm):C.normRow (tQ c)=tQ c:=rfl
theorem cL (c:T3):C.normRow (tU c)=tU c:=rfl
theorem zhp (c:T5):C.normRow (oU c)=oU c:=rfl
theorem mL (l:List Cty):C.normRows (xW l)=xW l:=vN rN l
theorem mM (l:List Frm):C.normRows (xX l)=xX l:=vN zho l
theorem cM (l:List Order):C.normRows (wK l)=wK l:=vN oR l
theorem cN (l:List T3):C.normRows (t3s l)=t3s l:=vN cL l
theorem cO (l:List T5):C.normRows (t5s l)=t5s l:=vN zhp l
theorem xY (r:Rlm):C.normRow (zS r)=zS r:=by
 simp only[zS,C.normRow,cK,zk5]
 rw[show(zB 6 (xW r.cities)).norm=zB 6 (xW r.cities) from tL rN 6 _,show(zB 3 (xX r.firms)).norm=zB 3 (xX r.firms) from tL zho 3 _,
  show(zB 4 (wK r.orders)).norm=zB 4 (wK r.orders) from tL oR 4 _,show(zB 3 (t3s r.usances)).norm=zB 3 (t3s r.usances) from tL cL 3 _,
  show(zB 5 (t5s r.rates)).norm=zB 5 (t5s r.rates) from tL zhp 5 _,show(zB 3 (t3s r.halts)).norm=zB 3 (t3s r.halts) from tL cL 3 _]
theorem qS {l:List Int} {i:Nat} (h:i<l.length):(zN l).getD i []=[.int .i64 (l.getD i 0)]:=by simp[zN,h,List.getD]
theorem c79 (i n:Int):Spec Tryz.prog 79 [.int .i64 i,.int .i64 n] (fun r=>r=.bool (decide (0≤i∧i<n))):=by
 refine Spec.of_awlS hf79 okf79 (by simp) fun S hS=>?_
 by_cases h1:i≥0<;>by_cases h2:i<n<;>simp only[h1,h2,Qs,Nat.reduceAdd,Nat.reduceBEq,Q79]<;>(have h1':0≤i ↔ i≥0:=Iff.rfl)<;>simpa [h1,h2,h1'] using hS
theorem c38 (i n:Int):Spec Tryz.prog 38 [.int .i64 i,.int .i64 n] (fun r=>r=.bool (decide (0≤i∧i<n))):=by
 refine Spec.of_awlS hf38 okf38 (by simp) fun S hS=>?_
 by_cases h1:i≥0<;>by_cases h2:i<n<;>simp only[h1,h2,Qs,Nat.reduceAdd,Nat.reduceBEq,Q38]<;>(have h1':0≤i ↔ i≥0:=Iff.rfl)<;>simpa [h1,h2,h1'] using hS
theorem c42 (i n:Int):Spec Tryz.prog 42 [.int .i64 i,.int .i64 n] (fun r=>r=.bool (decide (0≤i∧i<n))):=by
 refine Spec.of_awlS hf42 okf42 (by simp) fun S hS=>?_
 by_cases h1:i≥0<;>by_cases h2:i<n<;>simp only[h1,h2,Qs,Nat.reduceAdd,Nat.reduceBEq,Q42]<;>(have h1':0≤i ↔ i≥0:=Iff.rfl)<;>simpa [h1,h2,h1'] using hS
theorem c43 (i n:Int):Spec Tryz.prog 43 [.int .i64 i,.int .i64 n] (fun r=>r=.bool (decide (i= -1∨(0≤i∧i<n)))):=by
 refine Spec.of_awlS hf43 okf43 (by simp) fun S hS=>?_
 by_cases h:i= -1
 ·have hb:(i== -1)=true:=by simpa using h
  simp only[hb,Qs,Int.reduceNeg,Nat.reduceAdd,Nat.reduceBEq,Q43]
  exact fin hS (by simp[h])
 ·have hb:(i== -1)=false:=by simpa using h
  simp only[hb,Qs,Int.reduceNeg,Nat.reduceAdd,Nat.reduceBEq,Q43]
  refine zC (c42 i n) ?_
  simp only[Qs,Nat.reduceBEq]
  exact fin hS (by simp[h])
theorem mO (i a b:Int):Spec Tryz.prog 112 [.int .i64 i,.int .i64 a,.int .i64 b] (fun r=>r=.bool (decide (a≤i∧i≤b))):=by
 refine Spec.of_awlS hf112 okf112 (by simp) fun S hS=>?_
 by_cases h1:a≤i<;>by_cases h2:i≤b<;>simp only[h1,h2,Qs,Nat.reduceAdd,Nat.reduceBEq,Q112]<;>simpa [h1,h2] using hS
theorem zhq (i:Int):Spec Tryz.prog 117 [.int .i64 i] (fun r=>r=.bool (decide (0≤i∧i≤100000))):=by
 refine Spec.of_awlS hf117 okf117 (by simp) fun S hS=>?_
 by_cases h1:0≤i<;>by_cases h2:i≤100000<;>simp only[h1,h2,Qs,Nat.reduceBEq,Q117]<;>simpa [h1,h2] using hS
theorem c44 (i:Int):Spec Tryz.prog 44 [.int .i64 i] (fun r=>r=.bool (decide (0≤i∧i≤100000))):=by
 refine Spec.of_awlS hf44 okf44 (by simp) fun S hS=>?_
 by_cases h1:i≥0<;>by_cases h2:i≤100000<;>simp only[h1,h2,Qs,Nat.reduceBEq,Q44]<;>(have h1':0≤i ↔ i≥0:=Iff.rfl)<;>simpa [h1,h2,h1'] using hS
def qT (c:Int):Bool:=decide ((97≤c∧c≤122)∨(65≤c∧c≤90))
def oV (c:Int):Bool:=decide (c=95∨(48≤c∧c≤57))
theorem zk6 (c:Int):Spec Tryz.prog 147 [.int .u8 c] (fun r=>r=.bool (qT c)):=by
 refine Spec.of_awlS hf147 okf147 (by simp) fun S hS=>?_
 unfold qT at hS
 by_cases h1:97≤c<;>by_cases h2:c≤122<;>by_cases h3:65≤c<;>by_cases h4:c≤90<;>simp only[h1,h2,h3,h4,Qs,Nat.reduceBEq,Q147]<;>simpa [h1,h2,h3,h4] using hS
def atB (s:Txt) (i:Nat):Int:=((s.getD i 0).toNat:Int)
def okN (s:Txt) (i:Nat):Bool:=qT (atB s i)||(decide (i≠0)&&oV (atB s i))
def nameG (s:Txt):Bool:=decide (1≤s.length∧s.length≤20)&&(List.range s.length).all (okN s)
theorem zk7 (s:Txt):Spec Tryz.prog 131 [.str s] (fun r=>r=.bool (nameG s)):=by
 refine Spec.of_awlS hf131 okf131 (by simp) fun S hS=>?_
 by_cases h1:(s.length:Int)<1
 ·simp only[h1,Qs,Nat.reduceBEq,Q131]
  exact fin hS (by unfold nameG;rw[decide_eq_false (by omega)];rfl)
 by_cases h2:(s.length:Int)>20
 ·simp only[h1,h2,Qs,Nat.reduceBEq,Q131]
  exact fin hS (by unfold nameG;rw[decide_eq_false (by omega)];rfl)
 simp only[h1,h2,Qs,Nat.reduceBEq,Q131]
 rw[uu f131l17.eq_1]
 refine yY (fun i:Nat=>[(0,.str s),(3,.int .i64 i)]) (fun _=>[]) (fun i=>i≤s.length∧(List.range i).all (okN s)=true) (fun i=>s.length-i) 0 rfl rfl ⟨Nat.zero_le _,rfl⟩ ?_
 rintro i ⟨hi,hd⟩
 by_cases hlt:i<s.length
 ·have c1:(i:Int)<s.length:=by omega
  have i0:(0:Int)≤(i:Int):=by omega
  have c4:IntKind.i64.wrap ((i:Int)+1)=(i:Int)+1:=wrap_in (by omega) (by omega)
  have hn: ∀q,okN s i=q→(List.range (i+1)).all (okN s)=q:=fun q hq=>by rw[List.range_succ,List.all_append,hd];simp[hq]
  have hbad:okN s i=false→nameG s=false:=fun hq=>by
   unfold nameG
   rw[Bool.and_eq_false_iff]
   refine .inr (Bool.eq_false_iff.2 fun h=>?_)
   rw[List.all_eq_true] at h
   rw[h i (List.mem_range.2 hlt)] at hq
   cases hq
  have hok:okN s i=(qT ((s.getD i 0).toNat:Int)||(decide (i≠0)&&oV ((s.getD i 0).toNat:Int))):=rfl
  have g147:=zk6 ((s.getD i 0).toNat:Int)
  generalize hc:((s.getD i 0).toNat:Int)=c at hok g147
  generalize hlb:qT c=lb at hok g147
  have hm:oV c=decide (c=95∨(48≤c∧c≤57)):=rfl
  generalize okN s i=q at hn hbad hok
  cases lb with
  |true=>
   by_cases e1:c=95
   ·have e1b:(c==95)=true:=by simpa using e1
    simp only[c1,i0,c4,hc,e1b,Int.toNat_natCast,Qs,Nat.reduceBEq,Q131]
    refine zC g147 ?_
    simp only[c4,Qs,Nat.reduceBEq,Q131]
    exact Next.intro (i+1) rfl rfl ⟨by omega,hn true (by rw[hok];rfl)⟩ (by omega)
   ·have e1b:(c==95)=false:=by simpa using e1
    by_cases e2:48≤c<;>by_cases e3:c≤57<;>simp only[c1,i0,c4,hc,e1b,e2,e3,Int.toNat_natCast,Qs,Nat.reduceBEq,Q131]
    all_goals
     refine zC g147 ?_
     simp only[c4,Qs,Nat.reduceBEq,Q131]
     exact Next.intro (i+1) rfl rfl ⟨by omega,hn true (by rw[hok];rfl)⟩ (by omega)
  |false=>
   rw[Bool.false_or] at hok
   by_cases ez:i=0
   ·have ezb:((i:Int)==0)=true:=by simp[ez]
    have hq:q=false:=by rw[hok];simp[ez]
    by_cases e1:c=95
    ·have e1b:(c==95)=true:=by simpa using e1
     simp only[c1,i0,c4,hc,e1b,Int.toNat_natCast,Qs,Nat.reduceBEq,Q131]
     refine zC g147 ?_
     simp only[c4,ezb,Qs,Nat.reduceBEq,Q131]
     exact fin hS (by rw[hbad hq])
    ·have e1b:(c==95)=false:=by simpa using e1
     by_cases e2:48≤c<;>by_cases e3:c≤57<;>simp only[c1,i0,c4,hc,e1b,e2,e3,Int.toNat_natCast,Qs,Nat.reduceBEq,Q131]
     all_goals
      refine zC g147 ?_
      simp only[c4,ezb,Qs,Nat.reduceBEq,Q131]
      exact fin hS (by rw[hbad hq])
   ·have ezb:((i:Int)==0)=false:=by simp;omega
    have hq:q=oV c:=by rw[hok];simp[ez]
    rw[hm] at hq
    by_cases e1:c=95
    ·have e1b:(c==95)=true:=by simpa using e1
     simp only[c1,i0,c4,hc,e1b,Int.toNat_natCast,Qs,Nat.reduceBEq,Q131]
     refine zC g147 ?_
     simp only[c4,ezb,Qs,Nat.reduceBEq,Q131]
     exact Next.intro (i+1) rfl rfl ⟨by omega,hn true (by rw[hq];simp[e1])⟩ (by omega)
    ·have e1b:(c==95)=false:=by simpa using e1
     by_cases e2:48≤c<;>by_cases e3:c≤57<;>simp only[c1,i0,c4,hc,e1b,e2,e3,Int.toNat_natCast,Qs,Nat.reduceBEq,Q131]
     all_goals
      refine zC g147 ?_
      simp only[c4,ezb,Qs,Nat.reduceBEq,Q131]
      first
       |exact Next.intro (i+1) rfl rfl ⟨by omega,hn true (by rw[hq];simp[e1,e2,e3])⟩ (by omega)
       |exact fin hS (by rw[hbad (by rw[hq];simp[e1,e2,e3])])
 ·obtain rfl:i=s.length:=by omega
  have c1: ¬(s.length:Int)<s.length:=by omega
  simp only[c1,Qs,Nat.reduceBEq,Q131]
  exact fin hS (by unfold nameG;rw[decide_eq_true (by omega),hd];rfl)
def okR (l:List Int) (lo hi:Int) (i:Nat):Bool:=decide (lo≤l.getD i 0∧l.getD i 0≤hi)&&(decide (i=0)||decide (l.getD (i-1) 0<l.getD i 0))
def risG (l:List Int) (lo hi:Int):Bool:=(List.range l.length).all (okR l lo hi)
theorem zhr {f:Nat→Bool} {n i:Nat} (h:i<n) (hd:(List.range i).all f=true):(∀q,f i=q→(List.range (i+1)).all f=q)∧(f i=false→(List.range n).all f=false):=by
 refine⟨fun q hq=>by rw[List.range_succ,List.all_append,hd];simp[hq],fun hq=>Bool.eq_false_iff.2 fun h2=>?_⟩
 rw[List.all_eq_true] at h2
 rw[h2 i (List.mem_range.2 h)] at hq
 cases hq
theorem mP (l:List Int) (lo hi:Int):Spec Tryz.prog 109 [lst 1 (zN l),.int .i64 lo,.int .i64 hi] (fun r=>r=.bool (risG l lo hi)):=by
 refine Spec.of_len hf109 fun hlen=>?_
 have hl:=zg7 (sz:=1) (rows:=zN l) (by simp) hlen
 rw[zU] at hl
 clear hlen
 refine Spec.of_awlS hf109 okf109 (by simp) fun S hS=>?_
 simp only[vA,zU,Qs,Nat.reduceAdd,Nat.reduceBEq,Q109]
 rw[uu f109l17.eq_1]
 refine yY (fun i:Nat=>[(0,lst 1 (zN l)),(1,.int .i64 lo),(2,.int .i64 hi),(9,lst 1 (zN l)),(10,.int .i64 l.length),(11,.int .i64 i)]) (fun _=>[]) (fun i=>i≤l.length∧(List.range i).all (okR l lo hi)=true) (fun i=>l.length-i) 0 rfl rfl ⟨Nat.zero_le _,rfl⟩ ?_
 rintro i ⟨hi',hd⟩
 by_cases hlt:i<l.length
 ·have c1:(i:Int)<l.length:=by omega
  have i0:(0:Int)≤(i:Int):=by omega
  have c4:IntKind.i64.wrap ((i:Int)+1)=(i:Int)+1:=wrap_in (by omega) (by omega)
  have hat:(zN l).getD i []=[.int .i64 (l.getD i 0)]:=qS hlt
  obtain⟨hn,hb⟩:=zhr hlt hd
  have hok:okR l lo hi i=(decide (lo≤l.getD i 0∧l.getD i 0≤hi)&&(decide (i=0)||decide (l.getD (i-1) 0<l.getD i 0))):=rfl
  by_cases w1:l.getD i 0<lo
  ·simp only[c1,i0,hat,w1,zU,Int.toNat_natCast,Qs,Nat.reduceBEq,Q109]
   exact fin hS (by unfold risG;rw[hb (by rw[hok,decide_eq_false (by omega)];rfl)])
  by_cases w2:l.getD i 0>hi
  ·simp only[c1,i0,hat,w1,w2,zU,Int.toNat_natCast,Qs,Nat.reduceBEq,Q109]
   exact fin hS (by unfold risG;rw[hb (by rw[hok,decide_eq_false (by omega)];rfl)])
  rw[decide_eq_true (by omega),Bool.true_and] at hok
  by_cases ez:i=0
  ·have z1: ¬(i:Int)>0:=by omega
   simp only[c1,i0,c4,hat,w1,w2,z1,zU,Int.toNat_natCast,Qs,Nat.reduceBEq,Q109]
   exact Next.intro (i+1) rfl rfl ⟨by omega,hn true (by rw[hok];simp[ez])⟩ (by omega)
  ·have z1:(i:Int)>0:=by omega
   have z2:IntKind.i64.wrap ((i:Int)-1)=((i-1:Nat):Int):=by rw[wrap_in (by omega) (by omega)];omega
   have z3:(0:Int)≤((i-1:Nat):Int):=by omega
   have z4:((i-1:Nat):Int)<l.length:=by omega
   have hap:(zN l).getD (i-1) []=[.int .i64 (l.getD (i-1) 0)]:=qS (by omega)
   by_cases hr:l.getD (i-1) 0<l.getD i 0
   ·have z5: ¬l.getD i 0≤l.getD (i-1) 0:=by omega
    simp only[z1,z2,z3,z4,z5,c1,i0,c4,hat,hap,w1,w2,zU,Int.toNat_natCast,Qs,Nat.reduceBEq,Q109]
    exact Next.intro (i+1) rfl rfl ⟨by omega,hn true (by rw[hok,decide_eq_true hr,Bool.or_true])⟩ (by omega)
   ·have z5:l.getD i 0≤l.getD (i-1) 0:=by omega
    simp only[z1,z2,z3,z4,z5,c1,i0,c4,hat,hap,w1,w2,zU,Int.toNat_natCast,Qs,Nat.reduceBEq,Q109]
    exact fin hS (by unfold risG;rw[hb (by rw[hok,decide_eq_false ez,decide_eq_false hr];rfl)])
 ·obtain rfl:i=l.length:=by omega
  have c1: ¬(l.length:Int)<l.length:=by omega
  simp only[c1,zU,Qs,Nat.reduceBEq,Q109]
  exact fin hS (by unfold risG;rw[hd])
theorem cP (l:List Int) (lo hi:Int):Spec Tryz.prog 133 [lst 1 (zN l),.int .i64 lo,.int .i64 hi] (fun r=>r=.bool (risG l lo hi)):=by
 refine Spec.of_len hf133 fun hlen=>?_
 have hl:=zg7 (sz:=1) (rows:=zN l) (by simp) hlen
 rw[zU] at hl
 clear hlen
 refine Spec.of_awlS hf133 okf133 (by simp) fun S hS=>?_
 simp only[vA,zU,Qs,Nat.reduceAdd,Q133]
 rw[uu f133l21.eq_1]
 refine yY (fun i:Nat=>[(0,lst 1 (zN l)),(1,.int .i64 lo),(2,.int .i64 hi),(7,.int .i64 i)]) (fun _=>[]) (fun i=>i≤l.length∧(List.range i).all (okR l lo hi)=true) (fun i=>l.length-i) 0 rfl rfl ⟨Nat.zero_le _,rfl⟩ ?_
 rintro i ⟨hi',hd⟩
 by_cases hlt:i<l.length
 ·have c1:(i:Int)<l.length:=by omega
  have i0:(0:Int)≤(i:Int):=by omega
  have c4:IntKind.i64.wrap ((i:Int)+1)=(i:Int)+1:=wrap_in (by omega) (by omega)
  have hat:(zN l).getD i []=[.int .i64 (l.getD i 0)]:=qS hlt
  obtain⟨hn,hb⟩:=zhr hlt hd
  have hok:okR l lo hi i=(decide (lo≤l.getD i 0∧l.getD i 0≤hi)&&(decide (i=0)||decide (l.getD (i-1) 0<l.getD i 0))):=rfl
  have g112:=mO (l.getD i 0) lo hi
  by_cases hw:lo≤l.getD i 0∧l.getD i 0≤hi
  ·rw[decide_eq_true hw] at hok g112
   rw[Bool.true_and] at hok
   by_cases ez:i=0
   ·have z1: ¬(i:Int)>0:=by omega
    simp only[c1,i0,hat,zU,Int.toNat_natCast,Qs,Nat.reduceBEq,Q133]
    refine zC g112 ?_
    simp only[z1,c4,Qs,Nat.reduceBEq,Q133]
    exact Next.intro (i+1) rfl rfl ⟨by omega,hn true (by rw[hok];simp[ez])⟩ (by omega)
   ·have z1:(i:Int)>0:=by omega
    have z2:IntKind.i64.wrap ((i:Int)-1)=((i-1:Nat):Int):=by rw[wrap_in (by omega) (by omega)];omega
    have z3:(0:Int)≤((i-1:Nat):Int):=by omega
    have z4:((i-1:Nat):Int)<l.length:=by omega
    have hap:(zN l).getD (i-1) []=[.int .i64 (l.getD (i-1) 0)]:=qS (by omega)
    by_cases hr:l.getD (i-1) 0<l.getD i 0
    ·have z5: ¬l.getD (i-1) 0≥l.getD i 0:=by omega
     simp only[c1,i0,hat,zU,Int.toNat_natCast,Qs,Nat.reduceBEq,Q133]
     refine zC g112 ?_
     simp only[z1,z2,z3,z4,z5,c1,i0,c4,hat,hap,zU,Int.toNat_natCast,Qs,Nat.reduceBEq,Q133]
     exact Next.intro (i+1) rfl rfl ⟨by omega,hn true (by rw[hok,decide_eq_true hr,Bool.or_true])⟩ (by omega)
    ·have z5:l.getD (i-1) 0≥l.getD i 0:=by omega
     simp only[c1,i0,hat,zU,Int.toNat_natCast,Qs,Nat.reduceBEq,Q133]
     refine zC g112 ?_
     simp only[z1,z2,z3,z4,z5,c1,i0,c4,hat,hap,zU,Int.toNat_natCast,Qs,Nat.reduceBEq,Q133]
     exact fin hS (by unfold risG;rw[hb (by rw[hok,decide_eq_false ez,decide_eq_false hr];rfl)])
  ·rw[decide_eq_false hw] at hok g112
   simp only[c1,i0,hat,zU,Int.toNat_natCast,Qs,Nat.reduceBEq,Q133]
   refine zC g112 ?_
   simp only[Qs,Q133]
   exact fin hS (by unfold risG;rw[hb (by rw[hok];rfl)])
 ·obtain rfl:i=l.length:=by omega
  have c1: ¬(l.length:Int)<l.length:=by omega
  simp only[c1,zU,Qs,Nat.reduceBEq,Q133]
  exact fin hS (by unfold risG;rw[hd])
def befG (l:List Txt) (n:Nat) (s:Txt):Bool:=(l.take n).any fun x=>x==s
def yK (l:List Txt) (i:Nat):Int:=if nameG (l.getD i [])=true then(if befG l i (l.getD i [])=true then 5 else 0) else 2
theorem jT {l:List Txt} {i:Nat} (h:i<l.length):(zE l).getD i []=[.str (l.getD i [])]:=by simp[zE,h,List.getD]
theorem zk8 (l:List Txt) (n:Nat) (s:Txt) (hn:n≤9223372036854775807):Spec Tryz.prog 132 [lst 1 (zE l),.int .i64 n,.str s] (fun r=>r=.bool (befG l n s)):=by
 refine Spec.of_awlS hf132 okf132 (by simp) fun S hS=>?_
 simp only[yT,zK,Qs,Nat.reduceAdd,Q132]
 rw[uu f132l15.eq_1]
 refine yY (fun i:Nat=>[(0,lst 1 (zE l)),(1,.int .i64 n),(2,.str s),(7,.int .i64 i)]) (fun _=>[]) (fun i=>i≤n∧i≤l.length∧(l.take i).any (fun x=>x==s)=false) (fun i=>n-i) 0 rfl rfl ⟨Nat.zero_le _,Nat.zero_le _,rfl⟩ ?_
 rintro i ⟨hi,hi2,hd⟩
 by_cases h1:i<n
 ·have b1:(i:Int)<n:=by omega
  have i0:(0:Int)≤(i:Int):=by omega
  by_cases hlt:i<l.length
  ·have c1:(i:Int)<l.length:=by omega
   have c4:IntKind.i64.wrap ((i:Int)+1)=(i:Int)+1:=wrap_in (by omega) (by omega)
   have hat:=jT hlt
   have hnx:(l.take (i+1)).any (fun x=>x==s)=(l.getD i []==s):=by
    rw[List.take_succ_eq_append_getElem hlt,List.any_append,hd];simp[List.getD,hlt]
   cases e:(l.getD i []==s) with
   |true=>
    simp only[b1,c1,i0,hat,e,zK,Int.toNat_natCast,Qs,Nat.reduceBEq,Q132]
    refine fin hS ?_
    rw[e] at hnx
    have:befG l n s=true:=by
     unfold befG
     rw[show n=i+1+(n-(i+1)) by omega,List.take_add,List.any_append,hnx];rfl
    rw[this]
   |false=>
    simp only[b1,c1,i0,c4,hat,e,zK,Int.toNat_natCast,Qs,Nat.reduceBEq,Q132]
    exact Next.intro (i+1) rfl rfl ⟨by omega,by omega,by rw[hnx,e]⟩ (by omega)
  ·have c1: ¬(i:Int)<l.length:=by omega
   simp only[b1,c1,zK,Qs,Nat.reduceBEq,Q132]
   exact fin hS (by unfold befG;rw[List.take_of_length_le (by omega)];rw[List.take_of_length_le (by omega)] at hd;rw[hd])
 ·have b1: ¬(i:Int)<n:=by omega
  obtain rfl:i=n:=by omega
  simp only[b1,Qs,Nat.reduceBEq,Q132]
  exact fin hS (by unfold befG;rw[hd])
theorem zhs (l:List Txt) (i:Nat) (hi:i<l.length) (hb:i≤9223372036854775807):Spec Tryz.prog 110 [lst 1 (zE l),.int .i64 i] (fun r=>r=.int .i64 (yK l i)):=by
 refine Spec.of_awlS hf110 okf110 (by simp) fun S hS=>?_
 have c1:(i:Int)<l.length:=by omega
 have i0:(0:Int)≤(i:Int):=by omega
 have hat:=jT hi
 unfold yK at hS
 simp only[c1,i0,hat,zK,yT,Int.toNat_natCast,Qs,Nat.reduceAdd,Nat.reduceBEq,Q110]
 refine zC (zk7 (l.getD i [])) ?_
 cases hn:nameG (l.getD i []) with
 |false=>
  rw[hn,if_neg (by simp)] at hS
  simp only[Qs,Q110]
  exact hS
 |true=>
  rw[hn,if_pos rfl] at hS
  simp only[c1,i0,hat,zK,yT,Int.toNat_natCast,Qs,Nat.reduceBEq,Q110]
  refine zC (zk8 l i (l.getD i []) hb) ?_ (ha:=by simp[zD,V.norm,zW,lst,yT])
  cases hf:befG l i (l.getD i []) with
  |true=>
   rw[hf,if_pos rfl] at hS
   simp only[Qs,Q110]
   exact hS
  |false=>
   rw[hf,if_neg (by simp)] at hS
   simp only[Qs,Q110]
   exact hS
def okF (n:Int):Bool:=decide (101≤n∧n≤1231∧1≤n % 100∧n % 100≤31)
def vX (no nc:Int) (c:Cty):Bool:=(decide (0≤c.ord∧c.ord<no)&&decide (0≤c.cur∧c.cur<nc))&&((decide (c.feasts.length≤60)&&decide (c.shut.length≤200))&&(c.feasts.all okF&&(risG c.rest 0 6&&(risG c.feasts 0 2000&&risG c.shut 0 100000))))
theorem cQ {f:Int→Bool} {l:List Int} {i:Nat} (h:i<l.length) (hf:f (l.getD i 0)=false):l.all f=false:=by
 rw[Bool.eq_false_iff]
 intro h2
 rw[List.all_eq_true] at h2
 have:=h2 l[i] (List.getElem_mem h)
 rw[show l.getD i 0=l[i] by simp[List.getD,h]] at hf
 rw[hf] at this;cases this
theorem cR {f:Int→Bool} {l:List Int} {i:Nat} (h:i<l.length) (hd:(l.take i).all f=true) (hf:f (l.getD i 0)=true):(l.take (i+1)).all f=true:=by
 rw[List.take_succ_eq_append_getElem h,List.all_append,hd]
 rw[show l.getD i 0=l[i] by simp[List.getD,h]] at hf
 simp[hf]
def xM (n:Int):Prop:= -9223372036854775808≤n∧n≤9223372036854775807
theorem zk9 (n:Int):n.tdiv 100=if 0≤n then n/100 else-((-n)/100):=by
 split
 ·rw[Int.tdiv_eq_ediv_of_nonneg (by omega)]
 ·rw[show n.tdiv 100= -((-n).tdiv 100) by rw[Int.neg_tdiv];omega,Int.tdiv_eq_ediv_of_nonneg (by omega)]
theorem cS (n:Int):n.tmod 100=if 0≤n then n % 100 else-((-n) % 100):=by
 split
 ·rw[Int.tmod_eq_emod_of_nonneg (by omega)]
 ·rw[show n.tmod 100= -((-n).tmod 100) by rw[Int.neg_tmod];omega,Int.tmod_eq_emod_of_nonneg (by omega)]
theorem zla (r:Rlm) (c:Cty) (ho:r.orders.length≤1000) (hc:r.cur.length≤1000) (hf: ∀n∈c.feasts,xM n):Spec Tryz.prog 111 [.agg (zS r),.agg (xL c)] (fun v=>v=.bool (vX r.orders.length r.cur.length c)):=by
 refine Spec.of_awlS hf111 okf111 (by simp) fun S hS=>?_
 have hno:=xY r
 have hnc:=rN c
 simp only[zS,xL] at hno hnc⊢
 have w1:IntKind.i64.wrap ((r.orders.length:Int)-1)=(r.orders.length:Int)-1:=wrap_in (by omega) (by omega)
 have w2:IntKind.i64.wrap ((r.cur.length:Int)-1)=(r.cur.length:Int)-1:=wrap_in (by omega) (by omega)
 have e1:decide (0≤c.ord∧c.ord≤(r.orders.length:Int)-1)=decide (0≤c.ord∧c.ord<(r.orders.length:Int)):=decide_eq_decide.2 (by omega)
 have e2:decide (0≤c.cur∧c.cur≤(r.cur.length:Int)-1)=decide (0≤c.cur∧c.cur<(r.cur.length:Int)):=decide_eq_decide.2 (by omega)
 have g1:=mO c.ord 0 ((r.orders.length:Int)-1)
 have g2:=mO c.cur 0 ((r.cur.length:Int)-1)
 rw[e1] at g1
 rw[e2] at g2
 unfold vX at hS
 generalize decide (0≤c.ord∧c.ord<(r.orders.length:Int))=b1 at hS g1
 generalize decide (0≤c.cur∧c.cur<(r.cur.length:Int))=b2 at hS g2
 simp only[hno,hnc,w1,xH,zK,Qs,bne_iff_ne,ne_eq,Nat.reduceAdd,Nat.reduceEqDiff,Nat.reduceLeDiff,Nat.reduceBEq,Q111]
 refine zC g1 ?_
 cases b1 with
 |false=>simp only[Qs,Nat.reduceBEq,Q111];exact hS
 |true=>
 simp only[w2,xH,zK,Qs,Nat.reduceAdd,Nat.reduceLeDiff,Nat.reduceBEq]
 refine zC g2 ?_
 cases b2 with
 |false=>simp only[Qs,Nat.reduceBEq,Q111];exact hS
 |true=>
 rw[Bool.and_self,Bool.true_and] at hS
 by_cases l1:(c.feasts.length:Int)>60
 ·rw[decide_eq_false (by omega),Bool.false_and,Bool.false_and] at hS
  simp only[l1,zU,Qs,Nat.reduceAdd,Nat.reduceLeDiff,Nat.reduceBEq,Q111];exact hS
 by_cases l2:(c.shut.length:Int)>200
 ·rw[decide_eq_false (show¬c.shut.length≤200 by omega),Bool.and_false,Bool.false_and] at hS
  simp only[l1,l2,zU,Qs,Nat.reduceAdd,Nat.reduceLeDiff,Nat.reduceBEq,Q111];exact hS
 rw[decide_eq_true (show c.feasts.length≤60 by omega),decide_eq_true (show c.shut.length≤200 by omega),Bool.and_self,Bool.true_and] at hS
 simp only[l1,l2,zU,Qs,Nat.reduceAdd,Nat.reduceLeDiff,Nat.reduceBEq,Q111]
 rw[uu f111l15.eq_1]
 refine yY (fun i:Nat=>[(3,.k (.ptr 3 0)),(5,.int .i64 i)]) (fun _=>[(3,.var 91 ((xL c).map K.c))]) (fun i=>i≤c.feasts.length∧(c.feasts.take i).all okF=true) (fun i=>c.feasts.length-i) 0 rfl rfl ⟨Nat.zero_le _,rfl⟩ ?_
 rintro i ⟨hi,hd⟩
 by_cases hlt:i<c.feasts.length
 ·have c1:(i:Int)<c.feasts.length:=by omega
  have i0:(0:Int)≤(i:Int):=by omega
  have c4:IntKind.i64.wrap ((i:Int)+1)=(i:Int)+1:=wrap_in (by omega) (by omega)
  have hat:=qS hlt
  have hbad:=cQ (f:=okF) hlt
  have hnx:=cR (f:=okF) hlt hd
  have hin:=hf c.feasts[i] (List.getElem_mem hlt)
  rw[show c.feasts[i]=c.feasts.getD i 0 by simp[List.getD,hlt]] at hin
  have h1:=zk9 (c.feasts.getD i 0)
  have h2:=cS (c.feasts.getD i 0)
  have hof:okF (c.feasts.getD i 0)=decide (101≤c.feasts.getD i 0∧c.feasts.getD i 0≤1231∧1≤c.feasts.getD i 0 % 100∧c.feasts.getD i 0 % 100≤31):=rfl
  have ga:=mO ((c.feasts.getD i 0).tdiv 100) 1 12
  have gb:=mO ((c.feasts.getD i 0).tmod 100) 1 31
  have v1:IntKind.i64.wrap ((c.feasts.getD i 0).tdiv 100)=(c.feasts.getD i 0).tdiv 100:=wrap_in (by rw[h1];unfold xM at hin;split<;>omega) (by rw[h1];unfold xM at hin;split<;>omega)
  have v2:IntKind.i64.wrap ((c.feasts.getD i 0).tmod 100)=(c.feasts.getD i 0).tmod 100:=wrap_in (by rw[h2];unfold xM at hin;split<;>omega) (by rw[h2];unfold xM at hin;split<;>omega)
  have hk:okF (c.feasts.getD i 0)=(decide (1≤(c.feasts.getD i 0).tdiv 100∧(c.feasts.getD i 0).tdiv 100≤12)&&decide (1≤(c.feasts.getD i 0).tmod 100∧(c.feasts.getD i 0).tmod 100≤31)):=by
   rw[hof,h1,h2,←Bool.decide_and]
   refine decide_eq_decide.2 ?_
   split<;>constructor<;>intro h<;>omega
  generalize decide (1≤(c.feasts.getD i 0).tdiv 100∧(c.feasts.getD i 0).tdiv 100≤12)=p1 at ga hk
  generalize decide (1≤(c.feasts.getD i 0).tmod 100∧(c.feasts.getD i 0).tmod 100≤31)=p2 at gb hk
  simp only[xL,c1,i0,hat,v1,zU,Int.toNat_natCast,Qs,ne_eq,Nat.reduceAdd,Nat.reduceLeDiff,Nat.reduceBEq,Int.reduceEq,Q111]
  refine zC ga ?_
  cases p1 with
  |false=>
   simp only[Qs,Nat.reduceBEq,Q111]
   exact fin hS (by rw[hbad hk];rfl)
  |true=>
  simp only[xL,c1,i0,hat,v2,zU,Int.toNat_natCast,Qs,ne_eq,Nat.reduceAdd,Nat.reduceLeDiff,Nat.reduceBEq,Int.reduceEq]
  refine zC gb ?_
  cases p2 with
  |false=>
   simp only[Qs,Nat.reduceBEq,Q111]
   exact fin hS (by rw[hbad hk];rfl)
  |true=>
  simp only[c4,Qs,Nat.reduceBEq,Q111]
  exact Next.intro (i+1) rfl rfl ⟨by omega,hnx hk⟩ (by omega)
 ·obtain rfl:i=c.feasts.length:=by omega
  have c1: ¬(c.feasts.length:Int)<c.feasts.length:=by omega
  rw[List.take_length] at hd
  rw[hd,Bool.true_and] at hS
  simp only[xL,c1,zU,Qs,Nat.reduceAdd,Nat.reduceLeDiff,Nat.reduceBEq,Q111]
  refine zC (cP c.rest 0 6) ?_ (ha:=by simp[zD,V.norm,zW,lst,vA])
  cases h1:risG c.rest 0 6 with
  |false=>rw[h1] at hS;simp only[Qs,Nat.reduceBEq];exact hS
  |true=>
  rw[h1,Bool.true_and] at hS
  simp only[xL,zU,Qs,Nat.reduceAdd,Nat.reduceLeDiff,Nat.reduceBEq]
  refine zC (cP c.feasts 0 2000) ?_ (ha:=by simp[zD,V.norm,zW,lst,vA])
  cases h2:risG c.feasts 0 2000 with
  |false=>rw[h2] at hS;simp only[Qs,Nat.reduceBEq];exact hS
  |true=>
  rw[h2,Bool.true_and] at hS
  simp only[xL,zU,Qs,Nat.reduceAdd,Nat.reduceBEq]
  refine zC (cP c.shut 0 100000) ?_ (ha:=by simp[zD,V.norm,zW,lst,vA])
  simp only[Qs,Nat.reduceBEq]
  exact hS
def byB (c:Choice):Bool:=decide (0≤c.by_∧c.by_≤4)
def vB (l:List Choice):List Int:=l.map Choice.ask
def vO (l:List Rule):List Int:=l.map Rule.ask
def sI (o:Order):Bool:=o.choices.all byB&&(risG (vB o.choices) 0 21&&risG (vO o.rules) 0 21)
def chs (l:List Choice):List (List C):=l.map vF
def rls (l:List Rule):List (List C):=l.map wX
theorem cT (l:List Choice):(chs l).length=l.length:=by simp[chs]
theorem cU (l:List Rule):(rls l).length=l.length:=by simp[rls]
theorem zlb {l:List Choice} {i:Nat} (h:i<l.length):(chs l).getD i []=[.int .i64 ((vB l).getD i 0),.int .i64 l[i].by_,.bool l[i].whole]:=by
 simp[chs,vB,h,List.getD,vF]
theorem zlc {l:List Rule} {i:Nat} (h:i<l.length):(rls l).getD i []=.int .i64 ((vO l).getD i 0)::vE l[i].term:=by
 simp[rls,vO,h,List.getD,wX]
theorem zld (l:List Choice):(vB l).length=l.length:=by simp[vB]
theorem zle (l:List Rule):(vO l).length=l.length:=by simp[vO]
theorem cV {α:Type} {f:α→Bool} {l:List α} {i:Nat} (h:i<l.length) (hf:f l[i]=false):l.all f=false:=by
 rw[Bool.eq_false_iff]
 intro h2
 rw[List.all_eq_true] at h2
 have:=h2 l[i] (List.getElem_mem h)
 rw[hf] at this;cases this
theorem cW {α:Type} {f:α→Bool} {l:List α} {i:Nat} (h:i<l.length) (hd:(l.take i).all f=true) (hf:f l[i]=true):(l.take (i+1)).all f=true:=by
 rw[List.take_succ_eq_append_getElem h,List.all_append,hd]
 simp[hf]
theorem zoI (o:Order):Spec Tryz.prog 113 [.agg (wF o)] (fun v=>v=.bool (sI o)):=by
 refine Spec.of_len hf113 fun hlen=>?_
 have hl2:=zoH (o:=o) (by simp) hlen
 refine Spec.of_awlS hf113 okf113 (by simp) fun S hS=>?_
 have hno:=oR o
 have hL:wF o=[.str o.name,.bool o.accepts,zB 3 (chs o.choices),zB 4 (rls o.rules)]:=rfl
 rw[hL] at hno⊢
 simp only[hno,Qs,Nat.reduceBEq,Q113]
 rw[uu f113l44.eq_1]
 refine yY (fun i:Nat=>[(1,.k (.ptr 1 0)),(3,.int .i64 i)]) (fun _=>[(1,.var 102 ((wF o).map K.c))]) (fun i=>i≤o.choices.length∧(List.range i).all (okR (vB o.choices) 0 21)=true∧(o.choices.take i).all byB=true) (fun i=>o.choices.length-i) 0 rfl rfl ⟨Nat.zero_le _,rfl,rfl⟩ ?_
 rintro i ⟨hi,hd,he⟩
 by_cases hlt:i<o.choices.length
 ·have c1:(i:Int)<o.choices.length:=by omega
  have i0:(0:Int)≤(i:Int):=by omega
  have hat:=zlb hlt
  rw[hL]
  have c4:IntKind.i64.wrap ((i:Int)+1)=(i:Int)+1:=wrap_in (by omega) (by omega)
  have hla:=zld o.choices
  obtain⟨hn,hb⟩:=zhr (f:=okR (vB o.choices) 0 21) (n:=(vB o.choices).length) (by omega) hd
  have hok:okR (vB o.choices) 0 21 i=(decide (0≤(vB o.choices).getD i 0∧(vB o.choices).getD i 0≤21)&&(decide (i=0)||decide ((vB o.choices).getD (i-1) 0<(vB o.choices).getD i 0))):=rfl
  have hbad:okR (vB o.choices) 0 21 i=false→sI o=false:=fun h=>by unfold sI risG;rw[hb h,Bool.false_and,Bool.and_false]
  have hby:byB o.choices[i]=decide (0≤o.choices[i].by_∧o.choices[i].by_≤4):=rfl
  have hbad2:byB o.choices[i]=false→sI o=false:=fun h=>by unfold sI;rw[cV hlt h,Bool.false_and]
  have hnx:=cW (f:=byB) hlt he
  have ga:=mO ((vB o.choices).getD i 0) 0 21
  have gb:=mO o.choices[i].by_ 0 4
  rw[←hby] at gb
  generalize byB o.choices[i]=p2 at gb hbad2 hnx
  generalize hw:decide (0≤(vB o.choices).getD i 0∧(vB o.choices).getD i 0≤21)=p1 at ga hok
  simp only[c1,i0,hat,cT,Int.toNat_natCast,Qs,Nat.reduceAdd,Nat.reduceLeDiff,Nat.reduceBEq,Q113]
  refine zC ga ?_
  cases p1 with
  |false=>simp only[Qs,Nat.reduceBEq,Q113];exact fin hS (by rw[hbad (by rw[hok];rfl)])
  |true=>
  rw[Bool.true_and] at hok
  simp only[hL,c1,i0,hat,cT,Int.toNat_natCast,Qs,Nat.reduceAdd,Nat.reduceLeDiff,Nat.reduceBEq]
  refine zC gb ?_
  cases p2 with
  |false=>simp only[Qs,Nat.reduceBEq,Q113];exact fin hS (by rw[hbad2 rfl])
  |true=>
  by_cases ez:i=0
  ·have z1: ¬(i:Int)>0:=by omega
   simp only[z1,c4,Qs,Nat.reduceBEq,Q113]
   exact Next.intro (i+1) rfl rfl ⟨by omega,hn true (by rw[hok];simp[ez]),hnx rfl⟩ (by omega)
  ·have z1:(i:Int)>0:=by omega
   have z2:IntKind.i64.wrap ((i:Int)-1)=((i-1:Nat):Int):=by rw[wrap_in (by omega) (by omega)];omega
   have z3:(0:Int)≤((i-1:Nat):Int):=by omega
   have z4:((i-1:Nat):Int)<o.choices.length:=by omega
   have hap:=zlb (l:=o.choices) (i:=i-1) (by omega)
   by_cases hr:(vB o.choices).getD (i-1) 0<(vB o.choices).getD i 0
   ·have z5: ¬(vB o.choices).getD (i-1) 0≥(vB o.choices).getD i 0:=by omega
    simp only[hL,z1,z2,z3,z4,z5,c1,i0,c4,hat,hap,cT,Int.toNat_natCast,Qs,Nat.reduceAdd,Nat.reduceLeDiff,Nat.reduceBEq,Q113]
    exact Next.intro (i+1) rfl rfl ⟨by omega,hn true (by rw[hok,decide_eq_true hr,Bool.or_true]),hnx rfl⟩ (by omega)
   ·have z5:(vB o.choices).getD (i-1) 0≥(vB o.choices).getD i 0:=by omega
    simp only[hL,z1,z2,z3,z4,z5,c1,i0,c4,hat,hap,cT,Int.toNat_natCast,Qs,Nat.reduceAdd,Nat.reduceLeDiff,Nat.reduceBEq,Q113]
    exact fin hS (by rw[hbad (by rw[hok,decide_eq_false ez,decide_eq_false hr];rfl)])
 ·obtain rfl:i=o.choices.length:=by omega
  have c1: ¬(o.choices.length:Int)<o.choices.length:=by omega
  rw[List.take_length] at he
  have hrc:risG (vB o.choices) 0 21=true:=by unfold risG;rw[zld];exact hd
  have hg:sI o=risG (vO o.rules) 0 21:=by unfold sI;rw[he,hrc];rfl
  rw[hg] at hS
  rw[hL]
  simp only[c1,cT,Qs,Nat.reduceAdd,Nat.reduceLeDiff,Nat.reduceBEq,Q113]
  rw[uu f113l21.eq_1]
  refine yY (fun i:Nat=>[(1,.k (.ptr 1 0)),(4,.int .i64 i)]) (fun _=>[(1,.var 102 ((wF o).map K.c))]) (fun i=>i≤o.rules.length∧(List.range i).all (okR (vO o.rules) 0 21)=true) (fun i=>o.rules.length-i) 0 rfl rfl ⟨Nat.zero_le _,rfl⟩ ?_
  rintro i ⟨hi,hd⟩
  rw[hL]
  by_cases hlt:i<o.rules.length
  ·have c1:(i:Int)<o.rules.length:=by omega
   have i0:(0:Int)≤(i:Int):=by omega
   have hat:=zlc hlt
   have c4:IntKind.i64.wrap ((i:Int)+1)=(i:Int)+1:=wrap_in (by omega) (by omega)
   have hla:=zle o.rules
   obtain⟨hn,hb⟩:=zhr (f:=okR (vO o.rules) 0 21) (n:=(vO o.rules).length) (by omega) hd
   have hok:okR (vO o.rules) 0 21 i=(decide (0≤(vO o.rules).getD i 0∧(vO o.rules).getD i 0≤21)&&(decide (i=0)||decide ((vO o.rules).getD (i-1) 0<(vO o.rules).getD i 0))):=rfl
   have hbad:okR (vO o.rules) 0 21 i=false→risG (vO o.rules) 0 21=false:=fun h=>by unfold risG;rw[hb h]
   have ga:=mO ((vO o.rules).getD i 0) 0 21
   generalize hw:decide (0≤(vO o.rules).getD i 0∧(vO o.rules).getD i 0≤21)=p1 at ga hok
   simp only[c1,i0,hat,cU,Int.toNat_natCast,Qs,Nat.reduceAdd,Nat.reduceLeDiff,Nat.reduceBEq,Q113]
   refine zC ga ?_
   cases p1 with
   |false=>simp only[Qs,Q113];exact fin hS (by rw[hbad (by rw[hok];rfl)])
   |true=>
   rw[Bool.true_and] at hok
   by_cases ez:i=0
   ·have z1: ¬(i:Int)>0:=by omega
    simp only[z1,c4,Qs,Nat.reduceBEq,Q113]
    exact Next.intro (i+1) rfl rfl ⟨by omega,hn true (by rw[hok];simp[ez])⟩ (by omega)
   ·have z1:(i:Int)>0:=by omega
    have z2:IntKind.i64.wrap ((i:Int)-1)=((i-1:Nat):Int):=by rw[wrap_in (by omega) (by omega)];omega
    have z3:(0:Int)≤((i-1:Nat):Int):=by omega
    have z4:((i-1:Nat):Int)<o.rules.length:=by omega
    have hap:=zlc (l:=o.rules) (i:=i-1) (by omega)
    by_cases hr:(vO o.rules).getD (i-1) 0<(vO o.rules).getD i 0
    ·have z5: ¬(vO o.rules).getD (i-1) 0≥(vO o.rules).getD i 0:=by omega
     simp only[hL,z1,z2,z3,z4,z5,c1,i0,c4,hat,hap,cU,Int.toNat_natCast,Qs,Nat.reduceAdd,Nat.reduceLeDiff,Nat.reduceBEq,Q113]
     exact Next.intro (i+1) rfl rfl ⟨by omega,hn true (by rw[hok,decide_eq_true hr,Bool.or_true])⟩ (by omega)
    ·have z5:(vO o.rules).getD (i-1) 0≥(vO o.rules).getD i 0:=by omega
     simp only[hL,z1,z2,z3,z4,z5,c1,i0,c4,hat,hap,cU,Int.toNat_natCast,Qs,Nat.reduceAdd,Nat.reduceLeDiff,Nat.reduceBEq,Q113]
     exact fin hS (by rw[hbad (by rw[hok,decide_eq_false ez,decide_eq_false hr];rfl)])
  ·obtain rfl:i=o.rules.length:=by omega
   have c1: ¬(o.rules.length:Int)<o.rules.length:=by omega
   have hrc:risG (vO o.rules) 0 21=true:=by unfold risG;rw[zle];exact hd
   rw[hrc] at hS
   simp only[c1,cU,Qs,Nat.reduceAdd,Nat.reduceBEq,Q113]
   exact hS
def xC (f:Nat→Int):Nat→Nat→Int
 |0,_=>0
 |k+1,i=>if f i=0 then xC f k (i+1) else f i
theorem jU {f:Nat→Int} {n i:Nat} (h:i<n) (h0:f i=0):xC f (n-i) i=xC f (n-(i+1)) (i+1):=by
 rw[show n-i=(n-(i+1))+1 by omega,xC,if_pos h0]
theorem tV {f:Nat→Int} {n i:Nat} (h:i<n) (h0:f i≠0):xC f (n-i) i=f i:=by
 rw[show n-i=(n-(i+1))+1 by omega,xC,if_neg h0]
theorem zlf {l:List Txt} {i k:Nat} (h:i≤k) (s:Txt):befG (l.take k) i s=befG l i s:=by
 unfold befG;rw[List.take_take,Nat.min_eq_left h]
theorem zlg {l:List Txt} {i:Nat} (h:i<l.length):yK (l.take (i+1)) i=yK l i:=by
 have e:(l.take (i+1)).getD i []=l.getD i []:=by
  rw[List.getD_eq_getElem?_getD,List.getD_eq_getElem?_getD,List.getElem?_take,if_pos (by omega)]
 unfold yK
 rw[e,zlf (by omega)]
def cnm (r:Rlm):List Txt:=r.cities.map Cty.name
def fnm (r:Rlm):List Txt:=r.firms.map Frm.name
def onm (r:Rlm):List Txt:=r.orders.map Order.name
def thenE (a b:Int):Int:=if a=0 then b else a
def sJ:Cty:=⟨[],0,0,[],[],[]⟩
def qU:Frm:=⟨[],0,0⟩
def ordD:Order:=⟨[],false,[],[]⟩
def curE (r:Rlm):Int:=if (r.cur.length:Int)>8 then 6 else xC (yK r.cur) (r.cur.length-0) 0
def ctyE (r:Rlm):Int:=if (r.cities.length:Int)>40 then 6 else xC (fun i=>thenE (yK (cnm r) i) (if vX r.orders.length r.cur.length (r.cities.getD i sJ)=true then 0 else 1)) (r.cities.length-0) 0
theorem rO (r:Rlm):(cnm r).length=r.cities.length:=by simp[cnm]
structure RlmIn (r:Rlm):Prop where
 or:r.orders.length≤1000
 cu:r.cur.length≤1000
 ci:r.cities.length≤1000
 fi:r.firms.length≤1000
 gr:r.groups.length≤1000
 us:r.usances.length≤1000
 ra:r.rates.length≤1000
 ha:r.halts.length≤1000
 fe: ∀c∈r.cities,∀n∈c.feasts,xM n
 rt: ∀x∈r.rates,xM x.c∧xM x.d
theorem mQ {l:List Txt} {i:Nat} (h:i<l.length):zE (l.take i)++[[.str (l.getD i [])]]=zE (l.take (i+1)):=by
 rw[List.take_succ_eq_append_getElem h]
 unfold zE
 rw[List.map_append]
 congr 1
 simp[List.getD,h]
theorem c85 (r:Rlm) (hr:RlmIn r):Spec Tryz.prog 85 [.agg (zS r)] (fun v=>v=.int .i64 (thenE (curE r) (ctyE r))):=by
 refine Spec.of_awlS hf85 okf85 (by simp) fun S hS=>?_
 have hno:=xY r
 have hL:zS r=[zB 1 (zE r.cur),zB 6 (xW r.cities),zB 1 (zN r.groups),zB 3 (xX r.firms),zB 4 (wK r.orders),zB 3 (t3s r.usances),zB 5 (t5s r.rates),zB 3 (t3s r.halts)]:=rfl
 rw[hL] at hno⊢
 have h1:=hr.cu
 have h2:=hr.ci
 by_cases l1:(r.cur.length:Int)>8
 ·have e:thenE (curE r) (ctyE r)=6:=by unfold curE;rw[if_pos l1];rfl
  rw[e] at hS
  simp only[hno,l1,zK,Qs,Nat.reduceAdd,Nat.reduceLeDiff,Nat.reduceBEq,Q85]
  exact hS
 have e1:curE r=xC (yK r.cur) (r.cur.length-0) 0:=by unfold curE;rw[if_neg l1]
 rw[e1] at hS
 generalize htg:xC (yK r.cur) (r.cur.length-0) 0=tg at hS
 simp only[hno,l1,zK,Qs,Nat.reduceAdd,Nat.reduceLeDiff,Nat.reduceBEq,Q85]
 rw[uu f85l52.eq_1]
 refine yY (fun i:Nat=>[(1,.k (.ptr 1 0)),(3,.int .i64 i)]) (fun _=>[(1,.var 31 ((zS r).map K.c))]) (fun i=>i≤r.cur.length∧xC (yK r.cur) (r.cur.length-i) i=tg) (fun i=>r.cur.length-i) 0 rfl rfl ⟨Nat.zero_le _,htg⟩ ?_
 rintro i ⟨hi,hd⟩
 rw[hL]
 by_cases hlt:i<r.cur.length
 ·have c1:(i:Int)<r.cur.length:=by omega
  have i0:(0:Int)≤(i:Int):=by omega
  have c4:IntKind.i64.wrap ((i:Int)+1)=(i:Int)+1:=wrap_in (by omega) (by omega)
  have g:=zhs r.cur i hlt (by omega)
  simp only[c1,i0,zK,yT,Int.toNat_natCast,Qs,Nat.reduceAdd,Nat.reduceLeDiff,Nat.reduceBEq,Q85]
  refine zC g ?_ (ha:=by simp[zD,V.norm,zW,lst,yT])
  by_cases hz:yK r.cur i=0
  ·have hb:(yK r.cur i !=0)=false:=by simp[hz]
   rw[jU hlt hz] at hd
   simp only[hb,c4,Qs,Nat.reduceBEq,Q85]
   exact Next.intro (i+1) rfl rfl ⟨by omega,hd⟩ (by omega)
  ·have hb:(yK r.cur i !=0)=true:=by simp[hz]
   rw[tV hlt hz] at hd
   simp only[hb,Qs,Nat.reduceBEq,Q85]
   exact fin hS (by rw[←hd];unfold thenE;rw[if_neg hz])
 ·obtain rfl:i=r.cur.length:=by omega
  have c1: ¬(r.cur.length:Int)<r.cur.length:=by omega
  rw[Nat.sub_self,xC] at hd
  rw[←hd] at hS
  have e2:thenE 0 (ctyE r)=ctyE r:=rfl
  rw[e2] at hS
  by_cases l2:(r.cities.length:Int)>40
  ·have e:ctyE r=6:=by unfold ctyE;rw[if_pos l2]
   rw[e] at hS
   simp only[c1,l2,zK,yE,Qs,Nat.reduceAdd,Nat.reduceLeDiff,Nat.reduceBEq,Q85]
   exact hS
  have e3:ctyE r=xC (fun i=>thenE (yK (cnm r) i) (if vX r.orders.length r.cur.length (r.cities.getD i sJ)=true then 0 else 1)) (r.cities.length-0) 0:=by unfold ctyE;rw[if_neg l2]
  rw[e3] at hS
  generalize hF:(fun i=>thenE (yK (cnm r) i) (if vX r.orders.length r.cur.length (r.cities.getD i sJ)=true then 0 else 1))=F at hS
  have hFi: ∀i,F i=thenE (yK (cnm r) i) (if vX r.orders.length r.cur.length (r.cities.getD i sJ)=true then 0 else 1):=fun i=>by rw[←hF]
  generalize htg2:xC F (r.cities.length-0) 0=tg2 at hS
  simp only[c1,l2,zK,yE,Qs,zcx,bne_iff_ne,ne_eq,Nat.reduceAdd,Nat.reduceEqDiff,Nat.reduceLeDiff,Nat.reduceBEq,Q85]
  rw[uu f85l25.eq_1]
  refine yY (fun i:Nat=>[(1,.k (.ptr 1 0)),(5,.k (.own 5)),(6,.int .i64 i)]) (fun i=>[(1,.var 31 ((zS r).map K.c)),(5,.arr 9 1 (nlApp (some true) (zE ((cnm r).take i))) (zE ((cnm r).take i)))]) (fun i=>i≤r.cities.length∧xC F (r.cities.length-i) i=tg2) (fun i=>r.cities.length-i) 0 rfl rfl ⟨Nat.zero_le _,htg2⟩ ?_
  rintro i ⟨hi,hd⟩
  rw[hL]
  by_cases hlt:i<r.cities.length
  ·have c1:(i:Int)<r.cities.length:=by omega
   have i0:(0:Int)≤(i:Int):=by omega
   have c4:IntKind.i64.wrap ((i:Int)+1)=(i:Int)+1:=wrap_in (by omega) (by omega)
   have hcl:=rO r
   have hnm:(cnm r).getD i []=r.cities[i].name:=by simp[cnm,List.getD,hlt]
   have hci:r.cities.getD i sJ=r.cities[i]:=by simp[List.getD,hlt]
   have hat:(xW r.cities).getD i []=[.str ((cnm r).getD i []),.int .i64 r.cities[i].ord,.int .i64 r.cities[i].cur,zB 1 (zN r.cities[i].rest),zB 1 (zN r.cities[i].feasts),zB 1 (zN r.cities[i].shut)]:=by
    rw[mK hlt,hnm];rfl
   have hsn:zE ((cnm r).take i)++[[.str ((cnm r).getD i [])]]=zE ((cnm r).take (i+1)):=by
    exact mQ (by omega)
   have htl:((cnm r).take i).length=i:=by rw[List.length_take];omega
   have q1:i≤9223372036854775807:=by omega
   have q2:i*16≤140737488355328:=by omega
   have q3:i+1≤9223372036854775807:=by omega
   have q4:(i+1)*16≤140737488355328:=by omega
   have g:=zhs ((cnm r).take (i+1)) i (by rw[List.length_take];omega) (by omega)
   rw[zlg (by omega)] at g
   have gc:=zla r r.cities[i] hr.or hr.cu (hr.fe _ (List.getElem_mem hlt))
   rw[hL] at gc
   have hnl:nlApp (some true) (zE ((cnm r).take (i+1)))=some false:=by rw[←hsn];cases zE ((cnm r).take i)<;>rfl
   have hFe:=hFi i
   rw[hci] at hFe
   simp only[c1,i0,hat,hsn,htl,q1,q2,q3,q4,yE,zK,yT,Int.toNat_natCast,Qs,forall_eq,bne_iff_ne,ne_eq,List.mem_cons,Nat.reduceAdd,Nat.reduceEqDiff,Nat.reduceLeDiff,Nat.reduceLT,Nat.reduceBEq,List.not_mem_nil,Q85]
   refine zC g ?_ (ha:=by simp[zD,wW,lookO,V.norm,zW,lst,yT])
   by_cases hz:yK (cnm r) i=0
   ·have hb:(yK (cnm r) i !=0)=false:=by simp[hz]
    rw[hz] at hFe
    simp only[hb,c1,i0,hat,yE,Int.toNat_natCast,Qs,Nat.reduceAdd,Nat.reduceLeDiff,Nat.reduceBEq,Q85]
    rw[hnm]
    have hnc:=rN r.cities[i]
    unfold xL at hnc gc
    refine yV gc ?_ (ha:=by simp only[List.map_cons,List.map_nil,zD,V.norm,hno,hnc])
    cases hg:vX r.orders.length r.cur.length r.cities[i] with
    |false=>
     rw[hg] at hFe
     rw[tV hlt (by rw[hFe];decide),hFe] at hd
     simp only[Qs,zcX,Q85]
     exact fin hS (by rw[←hd];rfl)
    |true=>
     rw[hg] at hFe
     rw[jU hlt (by rw[hFe];rfl)] at hd
     simp only[c4,Qs,zcX,Nat.reduceBEq,Q85]
     exact Next.intro (i+1) rfl (by rw[hnl];rfl) ⟨by omega,hd⟩ (by omega)
   ·have hb:(yK (cnm r) i !=0)=true:=by simp[hz]
    have hFz:F i=yK (cnm r) i:=by rw[hFe];unfold thenE;rw[if_neg hz]
    rw[tV hlt (by rw[hFz];exact hz),hFz] at hd
    simp only[hb,Qs,Nat.reduceBEq,Q85]
    exact fin hS (by rw[←hd])
  ·obtain rfl:i=r.cities.length:=by omega
   have c1: ¬(r.cities.length:Int)<r.cities.length:=by omega
   rw[Nat.sub_self,xC] at hd
   rw[←hd] at hS
   simp only[c1,yE,Qs,Nat.reduceAdd,Nat.reduceLeDiff,Nat.reduceBEq,Q85]
   exact hS
def grB (n:Int):Bool:=decide (0≤n∧n≤9)
def qV (nc ng:Int) (f:Frm):Bool:=decide (0≤f.ci∧f.ci<nc)&&decide (0≤f.gr∧f.gr<ng)
def firE (r:Rlm):Int:=if (r.groups.length:Int)>20 then 6 else if r.groups.all grB=true then(if (r.firms.length:Int)>200 then 6 else
 xC (fun i=>thenE (yK (fnm r) i) (if qV r.cities.length r.groups.length (r.firms.getD i qU)=true then 0 else 1)) (r.firms.length-0) 0) else 1
def ordE (r:Rlm):Int:=if (r.orders.length:Int)>20 then 6 else xC (fun i=>thenE (yK (onm r) i) (if sI (r.orders.getD i ordD)=true then 0 else 1)) (r.orders.length-0) 0
theorem sK (r:Rlm):(fnm r).length=r.firms.length:=by simp[fnm]
theorem cY (r:Rlm):(onm r).length=r.orders.length:=by simp[onm]
theorem xZ (r:Rlm):zS r=[zB 1 (zE r.cur),zB 6 (xW r.cities),zB 1 (zN r.groups),zB 3 (xX r.firms),zB 4 (wK r.orders),zB 3 (t3s r.usances),zB 5 (t5s r.rates),zB 3 (t3s r.halts)]:=rfl
theorem c86 (r:Rlm) (hr:RlmIn r):Spec Tryz.prog 86 [.agg (zS r)] (fun v=>v=.int .i64 (firE r)):=by
 refine Spec.of_awlS hf86 okf86 (by simp) fun S hS=>?_
 have hno:=xY r
 have hL:=xZ r
 rw[hL] at hno⊢
 have h1:=hr.gr
 have h2:=hr.fi
 have h3:=hr.ci
 unfold firE at hS
 by_cases l1:(r.groups.length:Int)>20
 ·rw[if_pos l1] at hS
  simp only[hno,l1,zU,Qs,Nat.reduceAdd,Nat.reduceLeDiff,Nat.reduceBEq,Q86]
  exact hS
 rw[if_neg l1] at hS
 simp only[hno,l1,zU,Qs,Nat.reduceAdd,Nat.reduceLeDiff,Nat.reduceBEq,Q86]
 rw[uu f86l50.eq_1]
 refine yY (fun i:Nat=>[(1,.k (.ptr 1 0)),(3,.int .i64 i)]) (fun _=>[(1,.var 31 ((zS r).map K.c))]) (fun i=>i≤r.groups.length∧(r.groups.take i).all grB=true) (fun i=>r.groups.length-i) 0 rfl rfl ⟨Nat.zero_le _,rfl⟩ ?_
 rintro i ⟨hi,hd⟩
 rw[hL]
 by_cases hlt:i<r.groups.length
 ·have c1:(i:Int)<r.groups.length:=by omega
  have i0:(0:Int)≤(i:Int):=by omega
  have c4:IntKind.i64.wrap ((i:Int)+1)=(i:Int)+1:=wrap_in (by omega) (by omega)
  have hat:=qS hlt
  have g:=mO (r.groups.getD i 0) 0 9
  have hbad:=cQ (f:=grB) hlt
  have hnx:=cR (f:=grB) hlt hd
  have hgr:grB (r.groups.getD i 0)=decide (0≤r.groups.getD i 0∧r.groups.getD i 0≤9):=rfl
  rw[←hgr] at g
  simp only[c1,i0,hat,zU,Int.toNat_natCast,Qs,Nat.reduceAdd,Nat.reduceLeDiff,Nat.reduceBEq,Q86]
  refine zC g ?_
  cases hg:grB (r.groups.getD i 0) with
  |false=>
   rw[hbad hg,if_neg (by decide)] at hS
   simp only[Qs,Q86]
   exact hS
  |true=>
   simp only[c4,Qs,Nat.reduceBEq,Q86]
   exact Next.intro (i+1) rfl rfl ⟨by omega,hnx hg⟩ (by omega)
 ·obtain rfl:i=r.groups.length:=by omega
  have c1: ¬(r.groups.length:Int)<r.groups.length:=by omega
  rw[List.take_length] at hd
  rw[if_pos hd] at hS
  by_cases l2:(r.firms.length:Int)>200
  ·rw[if_pos l2] at hS
   simp only[c1,l2,zU,yW,Qs,Nat.reduceAdd,Nat.reduceLeDiff,Nat.reduceBEq,Q86]
   exact hS
  rw[if_neg l2] at hS
  generalize hF:(fun i=>thenE (yK (fnm r) i) (if qV r.cities.length r.groups.length (r.firms.getD i qU)=true then 0 else 1))=F at hS
  have hFi: ∀i,F i=thenE (yK (fnm r) i) (if qV r.cities.length r.groups.length (r.firms.getD i qU)=true then 0 else 1):=fun i=>by rw[←hF]
  generalize htg2:xC F (r.firms.length-0) 0=tg2 at hS
  simp only[c1,l2,zU,yW,Qs,zcx,bne_iff_ne,ne_eq,Nat.reduceAdd,Nat.reduceEqDiff,Nat.reduceLeDiff,Nat.reduceBEq,Q86]
  rw[uu f86l25.eq_1]
  refine yY (fun i:Nat=>[(1,.k (.ptr 1 0)),(4,.k (.own 4)),(5,.int .i64 i)]) (fun i=>[(1,.var 31 ((zS r).map K.c)),(4,.arr 9 1 (nlApp (some true) (zE ((fnm r).take i))) (zE ((fnm r).take i)))]) (fun i=>i≤r.firms.length∧xC F (r.firms.length-i) i=tg2) (fun i=>r.firms.length-i) 0 rfl rfl ⟨Nat.zero_le _,htg2⟩ ?_
  rintro i ⟨hi,hd⟩
  rw[hL]
  by_cases hlt:i<r.firms.length
  ·have c1:(i:Int)<r.firms.length:=by omega
   have i0:(0:Int)≤(i:Int):=by omega
   have c4:IntKind.i64.wrap ((i:Int)+1)=(i:Int)+1:=wrap_in (by omega) (by omega)
   have w1:IntKind.i64.wrap ((r.cities.length:Int)-1)=(r.cities.length:Int)-1:=wrap_in (by omega) (by omega)
   have w2:IntKind.i64.wrap ((r.groups.length:Int)-1)=(r.groups.length:Int)-1:=wrap_in (by omega) (by omega)
   have hcl:=sK r
   have hnm:(fnm r).getD i []=r.firms[i].name:=by simp[fnm,List.getD,hlt]
   have hci:r.firms.getD i qU=r.firms[i]:=by simp[List.getD,hlt]
   have hat:(xX r.firms).getD i []=[.str ((fnm r).getD i []),.int .i64 r.firms[i].ci,.int .i64 r.firms[i].gr]:=by
    rw[cJ hlt,hnm];rfl
   have hsn:zE ((fnm r).take i)++[[.str ((fnm r).getD i [])]]=zE ((fnm r).take (i+1)):=mQ (by omega)
   have htl:((fnm r).take i).length=i:=by rw[List.length_take];omega
   have q1:i≤9223372036854775807:=by omega
   have q2:i*16≤140737488355328:=by omega
   have q3:i+1≤9223372036854775807:=by omega
   have q4:(i+1)*16≤140737488355328:=by omega
   have g:=zhs ((fnm r).take (i+1)) i (by rw[List.length_take];omega) (by omega)
   rw[zlg (by omega)] at g
   have ga:=mO r.firms[i].ci 0 ((r.cities.length:Int)-1)
   have gb:=mO r.firms[i].gr 0 ((r.groups.length:Int)-1)
   rw[show decide (0≤r.firms[i].ci∧r.firms[i].ci≤(r.cities.length:Int)-1)=decide (0≤r.firms[i].ci∧r.firms[i].ci<(r.cities.length:Int)) from decide_eq_decide.2 (by omega)] at ga
   rw[show decide (0≤r.firms[i].gr∧r.firms[i].gr≤(r.groups.length:Int)-1)=decide (0≤r.firms[i].gr∧r.firms[i].gr<(r.groups.length:Int)) from decide_eq_decide.2 (by omega)] at gb
   have hnl:nlApp (some true) (zE ((fnm r).take (i+1)))=some false:=by rw[←hsn];cases zE ((fnm r).take i)<;>rfl
   have hFe:=hFi i
   rw[hci] at hFe
   unfold qV at hFe
   generalize decide (0≤r.firms[i].ci∧r.firms[i].ci<(r.cities.length:Int))=p1 at ga hFe
   generalize decide (0≤r.firms[i].gr∧r.firms[i].gr<(r.groups.length:Int))=p2 at gb hFe
   simp only[c1,i0,hat,hsn,htl,q1,q2,q3,q4,yW,zK,yT,Int.toNat_natCast,Qs,forall_eq,bne_iff_ne,ne_eq,List.mem_cons,Nat.reduceAdd,Nat.reduceEqDiff,Nat.reduceLeDiff,Nat.reduceLT,Nat.reduceBEq,List.not_mem_nil,Q86]
   refine zC g ?_ (ha:=by simp[zD,wW,lookO,V.norm,zW,lst,yT])
   by_cases hz:yK (fnm r) i=0
   ·have hb:(yK (fnm r) i !=0)=false:=by simp[hz]
    rw[hz] at hFe
    simp only[hb,c1,i0,hat,w1,yW,yE,Int.toNat_natCast,Qs,dJ,Nat.reduceAdd,Nat.reduceLeDiff,Nat.reduceBEq,Q86]
    refine yV ga ?_
    cases p1 with
    |false=>
     rw[Bool.false_and] at hFe
     rw[tV hlt (by rw[hFe];decide),hFe] at hd
     simp only[V.fz,Abs.K.fz,Qs,zcX,Nat.reduceBEq,Q86]
     exact fin hS (by rw[←hd];rfl)
    |true=>
    rw[Bool.true_and] at hFe
    simp only[V.fz,Abs.K.fz,c1,i0,hat,w2,yW,zU,Int.toNat_natCast,Qs,zcX,dJ,Nat.reduceAdd,Nat.reduceLeDiff,Nat.reduceBEq]
    refine yV gb ?_
    cases p2 with
    |false=>
     rw[tV hlt (by rw[hFe];decide),hFe] at hd
     simp only[V.fz,Abs.K.fz,Qs,zcX,Nat.reduceBEq,Q86]
     exact fin hS (by rw[←hd];rfl)
    |true=>
     rw[jU hlt (by rw[hFe];rfl)] at hd
     simp only[V.fz,Abs.K.fz,c4,Qs,zcX,Nat.reduceBEq,Q86]
     exact Next.intro (i+1) rfl (by rw[hnl];rfl) ⟨by omega,hd⟩ (by omega)
   ·have hb:(yK (fnm r) i !=0)=true:=by simp[hz]
    have hFz:F i=yK (fnm r) i:=by rw[hFe];unfold thenE;rw[if_neg hz]
    rw[tV hlt (by rw[hFz];exact hz),hFz] at hd
    simp only[hb,Qs,Nat.reduceBEq,Q86]
    exact fin hS (by rw[←hd])
  ·obtain rfl:i=r.firms.length:=by omega
   have c1: ¬(r.firms.length:Int)<r.firms.length:=by omega
   rw[Nat.sub_self,xC] at hd
   rw[←hd] at hS
   simp only[c1,yW,Qs,Nat.reduceAdd,Nat.reduceLeDiff,Nat.reduceBEq,Q86]
   exact hS
theorem c87 (r:Rlm) (hr:RlmIn r):Spec Tryz.prog 87 [.agg (zS r)] (fun v=>v=.int .i64 (ordE r)):=by
 refine Spec.of_awlS hf87 okf87 (by simp) fun S hS=>?_
 have hno:=xY r
 have hL:=xZ r
 rw[hL] at hno⊢
 have h2:=hr.or
 unfold ordE at hS
 by_cases l2:(r.orders.length:Int)>20
 ·rw[if_pos l2] at hS
  simp only[hno,l2,xH,Qs,Nat.reduceAdd,Nat.reduceLeDiff,Nat.reduceBEq,Q87]
  exact hS
 rw[if_neg l2] at hS
 generalize hF:(fun i=>thenE (yK (onm r) i) (if sI (r.orders.getD i ordD)=true then 0 else 1))=F at hS
 have hFi: ∀i,F i=thenE (yK (onm r) i) (if sI (r.orders.getD i ordD)=true then 0 else 1):=fun i=>by rw[←hF]
 generalize htg2:xC F (r.orders.length-0) 0=tg2 at hS
 simp only[hno,l2,xH,Qs,zcx,bne_iff_ne,ne_eq,Nat.reduceAdd,Nat.reduceEqDiff,Nat.reduceLeDiff,Nat.reduceBEq,Q87]
 rw[uu f87l25.eq_1]
 refine yY (fun i:Nat=>[(1,.k (.ptr 1 0)),(3,.k (.own 3)),(4,.int .i64 i)]) (fun i=>[(1,.var 31 ((zS r).map K.c)),(3,.arr 9 1 (nlApp (some true) (zE ((onm r).take i))) (zE ((onm r).take i)))]) (fun i=>i≤r.orders.length∧xC F (r.orders.length-i) i=tg2) (fun i=>r.orders.length-i) 0 rfl rfl ⟨Nat.zero_le _,htg2⟩ ?_
 rintro i ⟨hi,hd⟩
 rw[hL]
 by_cases hlt:i<r.orders.length
 ·have c1:(i:Int)<r.orders.length:=by omega
  have i0:(0:Int)≤(i:Int):=by omega
  have c4:IntKind.i64.wrap ((i:Int)+1)=(i:Int)+1:=wrap_in (by omega) (by omega)
  have hcl:=cY r
  have hnm:(onm r).getD i []=r.orders[i].name:=by simp[onm,List.getD,hlt]
  have hci:r.orders.getD i ordD=r.orders[i]:=by simp[List.getD,hlt]
  have hat:(wK r.orders).getD i []=[.str ((onm r).getD i []),.bool r.orders[i].accepts,zB 3 (chs r.orders[i].choices),zB 4 (rls r.orders[i].rules)]:=by
   rw[jS hlt,hnm];rfl
  have hsn:zE ((onm r).take i)++[[.str ((onm r).getD i [])]]=zE ((onm r).take (i+1)):=mQ (by omega)
  have htl:((onm r).take i).length=i:=by rw[List.length_take];omega
  have q1:i≤9223372036854775807:=by omega
  have q2:i*16≤140737488355328:=by omega
  have q3:i+1≤9223372036854775807:=by omega
  have q4:(i+1)*16≤140737488355328:=by omega
  have g:=zhs ((onm r).take (i+1)) i (by rw[List.length_take];omega) (by omega)
  rw[zlg (by omega)] at g
  have gc:=zoI r.orders[i]
  have hnl:nlApp (some true) (zE ((onm r).take (i+1)))=some false:=by rw[←hsn];cases zE ((onm r).take i)<;>rfl
  have hFe:=hFi i
  rw[hci] at hFe
  simp only[c1,i0,hat,hsn,htl,q1,q2,q3,q4,xH,zK,yT,Int.toNat_natCast,Qs,forall_eq,bne_iff_ne,ne_eq,List.mem_cons,Nat.reduceAdd,Nat.reduceEqDiff,Nat.reduceLeDiff,Nat.reduceLT,Nat.reduceBEq,List.not_mem_nil,Q87]
  refine zC g ?_ (ha:=by simp[zD,wW,lookO,V.norm,zW,lst,yT])
  by_cases hz:yK (onm r) i=0
  ·have hb:(yK (onm r) i !=0)=false:=by simp[hz]
   rw[hz] at hFe
   simp only[hb,c1,i0,hat,xH,Int.toNat_natCast,Qs,Nat.reduceAdd,Nat.reduceLeDiff,Nat.reduceBEq,Q87]
   rw[hnm]
   have hnc:=oR r.orders[i]
   have hL2:wF r.orders[i]=[.str r.orders[i].name,.bool r.orders[i].accepts,zB 3 (chs r.orders[i].choices),zB 4 (rls r.orders[i].rules)]:=rfl
   rw[hL2] at hnc gc
   refine zC gc ?_ (ha:=by simp only[List.map_cons,List.map_nil,zD,V.norm,hnc])
   cases hg:sI r.orders[i] with
   |false=>
    rw[hg] at hFe
    rw[tV hlt (by rw[hFe];decide),hFe] at hd
    simp only[Qs,Q87]
    exact fin hS (by rw[←hd];rfl)
   |true=>
    rw[hg] at hFe
    rw[jU hlt (by rw[hFe];rfl)] at hd
    simp only[c4,Qs,Nat.reduceBEq,Q87]
    exact Next.intro (i+1) rfl (by rw[hnl];rfl) ⟨by omega,hd⟩ (by omega)
  ·have hb:(yK (onm r) i !=0)=true:=by simp[hz]
   have hFz:F i=yK (onm r) i:=by rw[hFe];unfold thenE;rw[if_neg hz]
   rw[tV hlt (by rw[hFz];exact hz),hFz] at hd
   simp only[hb,Qs,Nat.reduceBEq,Q87]
   exact fin hS (by rw[←hd])
 ·obtain rfl:i=r.orders.length:=by omega
  have c1: ¬(r.orders.length:Int)<r.orders.length:=by omega
  rw[Nat.sub_self,xC] at hd
  rw[←hd] at hS
  simp only[c1,xH,Qs,Nat.reduceAdd,Nat.reduceLeDiff,Nat.reduceBEq,Q87]
  exact hS
def t3D:T3:=⟨0,0,0⟩
def usB (nc:Int) (u:T3):Bool:=decide (0≤u.a∧u.a<nc)&&(decide (0≤u.b∧u.b<nc)&&decide (1≤u.c∧u.c≤20000))
def rP (u x:T3):Bool:=(x.a==u.a)&&(x.b==u.b)
def usF (r:Rlm) (i:Nat):Int:=if usB r.cities.length (r.usances.getD i t3D)=true then(if (r.usances.take i).any (rP (r.usances.getD i t3D))=true then 5 else 0) else 1
def usE (r:Rlm):Int:=if (r.usances.length:Int)>100 then 6 else xC (usF r) (r.usances.length-0) 0
theorem zht {l:List T3} {i:Nat} (h:i<l.length):(t3s l).getD i []=[.int .i64 (l.getD i t3D).a,.int .i64 (l.getD i t3D).b,.int .i64 (l.getD i t3D).c]:=by
 rw[zhn h];simp[tU,List.getD,h]
theorem c88 (r:Rlm) (hr:RlmIn r):Spec Tryz.prog 88 [.agg (zS r)] (fun v=>v=.int .i64 (usE r)):=by
 refine Spec.of_awlS hf88 okf88 (by simp) fun S hS=>?_
 have hno:=xY r
 have hL:=xZ r
 rw[hL] at hno⊢
 have h2:=hr.us
 have h3:=hr.ci
 unfold usE at hS
 by_cases l2:(r.usances.length:Int)>100
 ·rw[if_pos l2] at hS
  simp only[hno,l2,xB,Qs,Nat.reduceAdd,Nat.reduceLeDiff,Nat.reduceBEq,Q88]
  exact hS
 rw[if_neg l2] at hS
 generalize htg2:xC (usF r) (r.usances.length-0) 0=tg2 at hS
 simp only[hno,l2,xB,Qs,Nat.reduceAdd,Nat.reduceLeDiff,Nat.reduceBEq,Q88]
 rw[uu f88l34.eq_1]
 refine yY (fun i:Nat=>[(1,.k (.ptr 1 0)),(3,.int .i64 i)]) (fun _=>[(1,.var 31 ((zS r).map K.c))]) (fun i=>i≤r.usances.length∧xC (usF r) (r.usances.length-i) i=tg2) (fun i=>r.usances.length-i) 0 rfl rfl ⟨Nat.zero_le _,htg2⟩ ?_
 rintro i ⟨hi,hd⟩
 rw[hL]
 by_cases hlt:i<r.usances.length
 ·have c1:(i:Int)<r.usances.length:=by omega
  have i0:(0:Int)≤(i:Int):=by omega
  have c4:IntKind.i64.wrap ((i:Int)+1)=(i:Int)+1:=wrap_in (by omega) (by omega)
  have w1:IntKind.i64.wrap ((r.cities.length:Int)-1)=(r.cities.length:Int)-1:=wrap_in (by omega) (by omega)
  have hat:=zht hlt
  have hF:usF r i=if usB r.cities.length (r.usances.getD i t3D)=true then(if (r.usances.take i).any (rP (r.usances.getD i t3D))=true then 5 else 0) else 1:=rfl
  generalize r.usances.getD i t3D=u at hat hF
  have ga:=mO u.a 0 ((r.cities.length:Int)-1)
  have gb:=mO u.b 0 ((r.cities.length:Int)-1)
  have gc:=mO u.c 1 20000
  rw[show decide (0≤u.a∧u.a≤(r.cities.length:Int)-1)=decide (0≤u.a∧u.a<(r.cities.length:Int)) from decide_eq_decide.2 (by omega)] at ga
  rw[show decide (0≤u.b∧u.b≤(r.cities.length:Int)-1)=decide (0≤u.b∧u.b<(r.cities.length:Int)) from decide_eq_decide.2 (by omega)] at gb
  unfold usB at hF
  generalize decide (0≤u.a∧u.a<(r.cities.length:Int))=p1 at ga hF
  generalize decide (0≤u.b∧u.b<(r.cities.length:Int))=p2 at gb hF
  generalize decide (1≤u.c∧u.c≤20000)=p3 at gc hF
  simp only[c1,i0,hat,w1,xB,yE,Int.toNat_natCast,Qs,bne_iff_ne,ne_eq,List.append_nil,Nat.reduceAdd,Nat.reduceEqDiff,Nat.reduceLeDiff,Nat.reduceBEq,Q88]
  refine zC ga ?_
  cases p1 with
  |false=>
   rw[if_neg (by simp)] at hF
   rw[tV hlt (by rw[hF];decide),hF] at hd
   simp only[Qs,Nat.reduceBEq,Q88]
   exact fin hS (by rw[←hd])
  |true=>
  simp only[w1,yE,Qs,Nat.reduceAdd,Nat.reduceLeDiff,Nat.reduceBEq]
  refine zC gb ?_
  cases p2 with
  |false=>
   rw[if_neg (by simp)] at hF
   rw[tV hlt (by rw[hF];decide),hF] at hd
   simp only[Qs,Nat.reduceBEq,Q88]
   exact fin hS (by rw[←hd])
  |true=>
  simp only[Qs,Nat.reduceAdd,Nat.reduceBEq]
  refine zC gc ?_
  cases p3 with
  |false=>
   rw[if_neg (by simp)] at hF
   rw[tV hlt (by rw[hF];decide),hF] at hd
   simp only[Qs,Nat.reduceBEq,Q88]
   exact fin hS (by rw[←hd])
  |true=>
  rw[if_pos (by rfl)] at hF
  simp only[Qs,Nat.reduceBEq,Q88]
  rw[uu f88l16.eq_1]
  refine yY (fun k:Nat=>[(1,.k (.ptr 1 0)),(3,.int .i64 i),(4,.k (.ptr 4 0)),(5,.int .i64 k)]) (fun _=>[(1,.var 31 ((zS r).map K.c)),(4,.var 116 ((tU u).map K.c))]) (fun k=>k≤i∧(r.usances.take k).any (rP u)=false) (fun k=>i-k) 0 rfl rfl ⟨Nat.zero_le _,rfl⟩ ?_
  rintro k ⟨hk,he⟩
  rw[hL]
  have hE:tU u=[.int .i64 u.a,.int .i64 u.b,.int .i64 u.c]:=rfl
  rw[hE]
  by_cases hkt:k<i
  ·have d1:(k:Int)<i:=by omega
   have d2:(k:Int)<r.usances.length:=by omega
   have d0:(0:Int)≤(k:Int):=by omega
   have d4:IntKind.i64.wrap ((k:Int)+1)=(k:Int)+1:=wrap_in (by omega) (by omega)
   have hkl:k<r.usances.length:=by omega
   have hbt:=zht hkl
   have hnk:(r.usances.take (k+1)).any (rP u)=rP u (r.usances.getD k t3D):=by
    rw[List.take_succ_eq_append_getElem hkl,List.any_append,he];simp[List.getD,hkl]
   have hyes:rP u (r.usances.getD k t3D)=true→(r.usances.take i).any (rP u)=true:=fun h=>by
    rw[show i=k+1+(i-(k+1)) by omega,List.take_add,List.any_append,hnk,h];rfl
   have hS2:rP u (r.usances.getD k t3D)=(((r.usances.getD k t3D).a==u.a)&&((r.usances.getD k t3D).b==u.b)):=rfl
   generalize r.usances.getD k t3D=x at hbt hnk hyes hS2
   cases x1:(x.a==u.a) with
   |false=>
    rw[x1,Bool.false_and] at hS2
    simp only[d1,d2,d0,d4,hbt,x1,xB,Int.toNat_natCast,Qs,Nat.reduceAdd,Nat.reduceLeDiff,Nat.reduceBEq,Q88]
    exact Next.intro (k+1) rfl rfl ⟨by omega,by rw[hnk,hS2]⟩ (by omega)
   |true=>
   cases x2:(x.b==u.b) with
   |false=>
    rw[x1,x2,Bool.true_and] at hS2
    simp only[d1,d2,d0,d4,hbt,x1,x2,xB,Int.toNat_natCast,Qs,Nat.reduceAdd,Nat.reduceLeDiff,Nat.reduceBEq,Q88]
    exact Next.intro (k+1) rfl rfl ⟨by omega,by rw[hnk,hS2]⟩ (by omega)
   |true=>
    rw[x1,x2,Bool.true_and] at hS2
    rw[hyes hS2,if_pos rfl] at hF
    rw[tV hlt (by rw[hF];decide),hF] at hd
    simp only[d1,d2,d0,hbt,x1,x2,xB,Int.toNat_natCast,Qs,Nat.reduceAdd,Nat.reduceLeDiff,Nat.reduceBEq,Q88]
    exact fin hS (by rw[←hd])
  ·obtain rfl:k=i:=by omega
   have d1: ¬(k:Int)<k:=by omega
   rw[he,if_neg (by simp)] at hF
   rw[jU hlt hF] at hd
   simp only[d1,c4,Qs,reduceCtorEq,Nat.reduceBEq,Nat.succ_ne_self,Q88]
   exact Next.intro (k+1) rfl rfl ⟨by omega,hd⟩ (by omega)
 ·obtain rfl:i=r.usances.length:=by omega
  have c1: ¬(r.usances.length:Int)<r.usances.length:=by omega
  rw[Nat.sub_self,xC] at hd
  rw[←hd] at hS
  simp only[c1,xB,Qs,Nat.reduceAdd,Nat.reduceLeDiff,Nat.reduceBEq,Q88]
  exact hS
def inB (n:Int) (len:Int):Bool:=decide (0≤n∧n<len)
def raB (nc:Int) (x:T5):Bool:=inB x.a nc&&(inB x.b nc&&(!(x.a==x.b)&&(decide (1≤x.c∧x.c≤1073741824)&&(decide (1≤x.d∧x.d≤1073741824)&&decide (0≤x.e∧x.e≤100000)))))
def haB (no:Int) (x:T3):Bool:=inB x.a no&&(decide (0≤x.b∧x.b≤x.c)&&decide (x.c≤100000))
def resE (r:Rlm):Int:=if (r.rates.length:Int)>100 then 6 else if r.rates.all (raB r.cur.length)=true then(if (r.halts.length:Int)>20 then 6 else if r.halts.all (haB r.orders.length)=true then 0 else 1) else 1
theorem zlh {l:List T5} {i:Nat} (h:i<l.length):(t5s l).getD i []=[.int .i64 l[i].a,.int .i64 l[i].b,.int .i64 l[i].c,.int .i64 l[i].d,.int .i64 l[i].e]:=by
 rw[zk4 h];rfl
theorem cZ {l:List T3} {i:Nat} (h:i<l.length):(t3s l).getD i []=[.int .i64 l[i].a,.int .i64 l[i].b,.int .i64 l[i].c]:=by
 rw[zhn h];rfl
theorem zon (n len:Int):decide (0≤n∧n≤len-1)=inB n len:=decide_eq_decide.2 (by omega)
theorem c89 (r:Rlm) (hr:RlmIn r):Spec Tryz.prog 89 [.agg (zS r)] (fun v=>v=.int .i64 (resE r)):=by
 refine Spec.of_awlS hf89 okf89 (by simp) fun S hS=>?_
 have hno:=xY r
 have hL:=xZ r
 rw[hL] at hno⊢
 have h1:=hr.ra
 have h2:=hr.ha
 have h3:=hr.cu
 have h4:=hr.or
 unfold resE at hS
 by_cases l1:(r.rates.length:Int)>100
 ·rw[if_pos l1] at hS
  simp only[hno,l1,vW,Qs,Nat.reduceAdd,Nat.reduceLeDiff,Nat.reduceBEq,Q89]
  exact hS
 rw[if_neg l1] at hS
 have w1:IntKind.i64.wrap ((r.cur.length:Int)-1)=(r.cur.length:Int)-1:=wrap_in (by omega) (by omega)
 have w2:IntKind.i64.wrap ((r.orders.length:Int)-1)=(r.orders.length:Int)-1:=wrap_in (by omega) (by omega)
 simp only[hno,l1,vW,Qs,Nat.reduceAdd,Nat.reduceLeDiff,Nat.reduceBEq,Q89]
 rw[uu f89l48.eq_1]
 refine yY (fun i:Nat=>[(1,.k (.ptr 1 0)),(3,.int .i64 i)]) (fun _=>[(1,.var 31 ((zS r).map K.c))]) (fun i=>i≤r.rates.length∧(r.rates.take i).all (raB r.cur.length)=true) (fun i=>r.rates.length-i) 0 rfl rfl ⟨Nat.zero_le _,rfl⟩ ?_
 rintro i ⟨hi,hd⟩
 rw[hL]
 by_cases hlt:i<r.rates.length
 ·have c1:(i:Int)<r.rates.length:=by omega
  have i0:(0:Int)≤(i:Int):=by omega
  have c4:IntKind.i64.wrap ((i:Int)+1)=(i:Int)+1:=wrap_in (by omega) (by omega)
  have hat:=zlh hlt
  have hbad:=cV (f:=raB r.cur.length) hlt
  have hnx:=cW (f:=raB r.cur.length) hlt hd
  have hB:raB r.cur.length r.rates[i]=(inB r.rates[i].a r.cur.length&&(inB r.rates[i].b r.cur.length&&(!(r.rates[i].a==r.rates[i].b)&&(decide (1≤r.rates[i].c∧r.rates[i].c≤1073741824)&&(decide (1≤r.rates[i].d∧r.rates[i].d≤1073741824)&&decide (0≤r.rates[i].e∧r.rates[i].e≤100000)))))):=rfl
  generalize raB r.cur.length r.rates[i]=B at hbad hnx hB
  generalize r.rates[i]=x at hat hB
  have ga:=mO x.a 0 ((r.cur.length:Int)-1)
  have gb:=mO x.b 0 ((r.cur.length:Int)-1)
  have gc:=mO x.c 1 1073741824
  have gd:=mO x.d 1 1073741824
  have ge:=mO x.e 0 100000
  rw[zon] at ga gb
  generalize inB x.a r.cur.length=p1 at ga hB
  generalize inB x.b r.cur.length=p2 at gb hB
  generalize decide (1≤x.c∧x.c≤1073741824)=p3 at gc hB
  generalize decide (1≤x.d∧x.d≤1073741824)=p4 at gd hB
  generalize decide (0≤x.e∧x.e≤100000)=p5 at ge hB
  have hno2:B=false→S (.int .i64 1):=fun h=>by rw[hbad h,if_neg (by decide)] at hS;exact hS
  simp only[c1,i0,hat,w1,zK,vW,Int.toNat_natCast,Qs,bne_iff_ne,ne_eq,List.append_nil,Nat.reduceAdd,Nat.reduceEqDiff,Nat.reduceLeDiff,Nat.reduceBEq,Q89]
  refine zC ga ?_
  cases p1 with
  |false=>simp only[Qs,Nat.reduceBEq,Q89];exact hno2 hB
  |true=>
  rw[Bool.true_and] at hB
  simp only[w1,zK,Qs,Nat.reduceAdd,Nat.reduceLeDiff,Nat.reduceBEq]
  refine zC gb ?_
  cases p2 with
  |false=>simp only[Qs,Nat.reduceBEq,Q89];exact hno2 hB
  |true=>
  rw[Bool.true_and] at hB
  cases q:(x.a==x.b) with
  |true=>rw[q] at hB;simp only[q,Qs,Nat.reduceAdd,Nat.reduceLeDiff,Nat.reduceBEq,Q89];exact hno2 hB
  |false=>
  rw[q,Bool.not_false,Bool.true_and] at hB
  simp only[q,Qs,Nat.reduceAdd,Nat.reduceLeDiff,Nat.reduceBEq,Q89]
  refine zC gc ?_
  cases p3 with
  |false=>simp only[Qs,Nat.reduceBEq,Q89];exact hno2 hB
  |true=>
  rw[Bool.true_and] at hB
  simp only[Qs,Nat.reduceAdd,Nat.reduceLeDiff,Nat.reduceBEq]
  refine zC gd ?_
  cases p4 with
  |false=>simp only[Qs,Nat.reduceBEq,Q89];exact hno2 hB
  |true=>
  rw[Bool.true_and] at hB
  simp only[Qs,Nat.reduceAdd,Nat.reduceBEq]
  refine zC ge ?_
  cases p5 with
  |false=>simp only[Qs,Nat.reduceBEq,Q89];exact hno2 hB
  |true=>
  simp only[c4,Qs,Nat.reduceBEq,Q89]
  exact Next.intro (i+1) rfl rfl ⟨by omega,hnx hB⟩ (by omega)
 ·obtain rfl:i=r.rates.length:=by omega
  have c1: ¬(r.rates.length:Int)<r.rates.length:=by omega
  rw[List.take_length] at hd
  rw[if_pos hd] at hS
  by_cases l2:(r.halts.length:Int)>20
  ·rw[if_pos l2] at hS
   simp only[c1,l2,vW,xB,Qs,Nat.reduceAdd,Nat.reduceLeDiff,Nat.reduceBEq,Q89]
   exact hS
  rw[if_neg l2] at hS
  simp only[c1,l2,vW,xB,Qs,Nat.reduceAdd,Nat.reduceLeDiff,Nat.reduceBEq,Q89]
  rw[uu f89l17.eq_1]
  refine yY (fun i:Nat=>[(1,.k (.ptr 1 0)),(5,.int .i64 i)]) (fun _=>[(1,.var 31 ((zS r).map K.c))]) (fun i=>i≤r.halts.length∧(r.halts.take i).all (haB r.orders.length)=true) (fun i=>r.halts.length-i) 0 rfl rfl ⟨Nat.zero_le _,rfl⟩ ?_
  rintro i ⟨hi,hd⟩
  rw[hL]
  by_cases hlt:i<r.halts.length
  ·have c1:(i:Int)<r.halts.length:=by omega
   have i0:(0:Int)≤(i:Int):=by omega
   have c4:IntKind.i64.wrap ((i:Int)+1)=(i:Int)+1:=wrap_in (by omega) (by omega)
   have hat:=cZ hlt
   have hbad:=cV (f:=haB r.orders.length) hlt
   have hnx:=cW (f:=haB r.orders.length) hlt hd
   have hB:haB r.orders.length r.halts[i]=(inB r.halts[i].a r.orders.length&&(decide (0≤r.halts[i].b∧r.halts[i].b≤r.halts[i].c)&&decide (r.halts[i].c≤100000))):=rfl
   generalize haB r.orders.length r.halts[i]=B at hbad hnx hB
   generalize r.halts[i]=x at hat hB
   have ga:=mO x.a 0 ((r.orders.length:Int)-1)
   have gb:=mO x.b 0 x.c
   rw[zon] at ga
   generalize inB x.a r.orders.length=p1 at ga hB
   generalize decide (0≤x.b∧x.b≤x.c)=p2 at gb hB
   have hno2:B=false→S (.int .i64 1):=fun h=>by rw[hbad h,if_neg (by decide)] at hS;exact hS
   simp only[c1,i0,hat,w2,xH,xB,Int.toNat_natCast,Qs,bne_iff_ne,ne_eq,List.append_nil,Nat.reduceAdd,Nat.reduceEqDiff,Nat.reduceLeDiff,Nat.reduceBEq,Q89]
   refine zC ga ?_
   cases p1 with
   |false=>simp only[Qs,Nat.reduceBEq,Q89];exact hno2 hB
   |true=>
   rw[Bool.true_and] at hB
   simp only[Qs,Nat.reduceAdd,Nat.reduceLeDiff,Nat.reduceBEq]
   refine zC gb ?_
   cases p2 with
   |false=>simp only[Qs,Nat.reduceBEq,Q89];exact hno2 hB
   |true=>
   rw[Bool.true_and] at hB
   by_cases z:x.c>100000
   ·simp only[z,Qs,Nat.reduceAdd,Nat.reduceBEq,Q89];exact hno2 (by rw[hB,decide_eq_false (by omega)])
   ·simp only[z,c4,Qs,Nat.reduceAdd,Nat.reduceBEq,Q89]
    exact Next.intro (i+1) rfl rfl ⟨by omega,hnx (by rw[hB,decide_eq_true (by omega)])⟩ (by omega)
  ·obtain rfl:i=r.halts.length:=by omega
   have c1: ¬(r.halts.length:Int)<r.halts.length:=by omega
   rw[List.take_length] at hd
   rw[if_pos hd] at hS
   simp only[c1,xB,Qs,Nat.reduceAdd,Nat.reduceBEq,Q89]
   exact hS
def rlmE (r:Rlm):Int:=thenE (thenE (curE r) (ctyE r)) (thenE (firE r) (thenE (ordE r) (thenE (usE r) (resE r))))
theorem c41 (r:Rlm) (hr:RlmIn r):Spec Tryz.prog 41 [.agg (zS r)] (fun v=>v=.int .i64 (rlmE r)):=by
 refine Spec.of_awlS hf41 okf41 (by simp) fun S hS=>?_
 have hno:=xY r
 have g1:=c85 r hr
 have g2:=c86 r hr
 have g3:=c87 r hr
 have g4:=c88 r hr
 have g5:=c89 r hr
 have hL:=xZ r
 rw[hL] at hno g1 g2 g3 g4 g5⊢
 unfold rlmE at hS
 generalize thenE (curE r) (ctyE r)=e1 at hS g1
 generalize firE r=e2 at hS g2
 generalize ordE r=e3 at hS g3
 generalize usE r=e4 at hS g4
 generalize resE r=e5 at hS g5
 simp only[hno,Qs,Nat.reduceAdd,Nat.reduceBEq,Q41]
 refine zC g1 ?_ (ha:=by simp only[List.map_cons,List.map_nil,zD,V.norm,hno])
 by_cases z1:e1=0
 case neg=>
  have zb:(e1==0)=false:=by simpa using z1
  rw[thenE,if_neg z1] at hS
  simp only[zb,Qs,Nat.reduceBEq,Q41]
  exact hS
 subst z1
 have hS:S (.int .i64 (thenE e2 (thenE e3 (thenE e4 e5)))):=hS
 have zt:((0:Int)==0)=true:=rfl
 simp only[zt,Qs,Nat.reduceAdd,Nat.reduceBEq,Q41]
 refine zC g2 ?_ (ha:=by simp only[List.map_cons,List.map_nil,zD,V.norm,hno])
 by_cases z2:e2=0
 case neg=>
  have zb:(e2==0)=false:=by simpa using z2
  rw[thenE,if_neg z2] at hS
  simp only[zb,Qs,Nat.reduceBEq,Q41]
  exact hS
 subst z2
 have hS:S (.int .i64 (thenE e3 (thenE e4 e5))):=hS
 have zt:((0:Int)==0)=true:=rfl
 simp only[zt,Qs,Nat.reduceAdd,Nat.reduceBEq,Q41]
 refine zC g3 ?_ (ha:=by simp only[List.map_cons,List.map_nil,zD,V.norm,hno])
 by_cases z3:e3=0
 case neg=>
  have zb:(e3==0)=false:=by simpa using z3
  rw[thenE,if_neg z3] at hS
  simp only[zb,Qs,Nat.reduceBEq,Q41]
  exact hS
 subst z3
 have hS:S (.int .i64 (thenE e4 e5)):=hS
 have zt:((0:Int)==0)=true:=rfl
 simp only[zt,Qs,Nat.reduceAdd,Nat.reduceBEq,Q41]
 refine zC g4 ?_ (ha:=by simp only[List.map_cons,List.map_nil,zD,V.norm,hno])
 by_cases z4:e4=0
 case neg=>
  have zb:(e4==0)=false:=by simpa using z4
  rw[thenE,if_neg z4] at hS
  simp only[zb,Qs,Nat.reduceBEq,Q41]
  exact hS
 subst z4
 have hS:S (.int .i64 e5):=hS
 have zt:((0:Int)==0)=true:=rfl
 simp only[zt,Qs,Nat.reduceAdd,Nat.reduceBEq,Q41]
 refine zC g5 ?_ (ha:=by simp only[List.map_cons,List.map_nil,zD,V.norm,hno])
 simp only[Qs,Q41]
 exact hS
end Go.Abs
