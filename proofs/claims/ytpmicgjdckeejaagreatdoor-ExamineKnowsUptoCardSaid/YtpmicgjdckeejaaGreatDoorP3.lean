/- A part of the proof; the last text states what is proved. -/
import Derived.Test.YtpmicgjdckeejaaGreatDoorP2
import Derived.Test.YtpmicgjdckeejaaGreatDoorProg
import Derived.IntWalk
import Derived.Shelf.GgClosure.StringsIndexFuncTop
import Derived.Lib.AtoiAll
import Derived.Lib.ItoaNum
import Derived.Deep.OwnRows
import Derived.WalkKit
set_option linter.unusedVariables false
set_option linter.unusedSimpArgs false
set_option maxRecDepth 100000
set_option maxHeartbeats 8000000
open Array renaming eq_empty_of_size_eq_zero → YR
open Bool renaming and_eq_true → Zp,and_false → YU,eq_false_iff → YE,eq_iff_iff → Yp,false_and → ZP,false_eq_true → Z1,false_or → Ym,not_eq_true' → Xg,not_true → XP,or_eq_true → Yi,true_and → ZJ,true_or → Y7
open Eq renaming refl → ZI,trans → ZQ
open Int renaming natCast_mul → Yt,reduceLE → Yl,reduceLT → XJ,reduceNeg → Xm,toNat_zero → XT
open List renaming all_cons → Yz,all_eq_false → YD,all_eq_true → Zu,all_nil → Xf,any_eq_true → Yo,append_nil → Zk,cons_append → ZS,drop_eq_getElem_cons → ZE,drop_eq_nil_of_le → ZC,eq_nil_of_length_eq_zero → ZZ,flatten_cons → YL,foldl_append → Xq,foldl_cons → YQ,getD_cons_zero → XA,getD_eq_getElem?_getD → Zh,getElem?_append_left → ZD,getElem?_append_right → ZF,getElem?_eq_getElem → Zg,getElem?_eq_some_iff → Zr,getElem?_map → Zw,getElem?_take → Z4,getElem_mem → Zx,getElem_of_mem → YW,length_append → Zv,length_cons → Zo,length_map → Zi,length_nil → ZG,length_pos_iff → Yh,length_take → Yy,map_append → ZW,map_cons → Zm,map_nil → Zq,map_take → Xr,mem_cons → ZH,mem_cons_of_mem → Zz,mem_cons_self → Yr,mem_map → ZB,mem_of_getElem? → ZL,nil_append → Ya,nodup_cons → ZY,not_mem_nil → Zy,take_length → Yk,take_of_length_le → Z9,take_succ_eq_append_getElem → ZK
open Nat renaming add_mul → Yx,add_sub_cancel_left → XY,add_zero → Yq,le_refl → Zt,le_trans → ZT,mul_assoc → XD,mul_le_mul → YX,one_mul → Xs,pow_le_pow_right → Yf,reduceAdd → Zc,reduceBEq → Za,reduceEqDiff → Zs,reduceLT → Z5,reduceLeDiff → Zl,reduceMul → Ye,zero_add → ZV,zero_le → ZA
open Option renaming map_eq_some_iff → Zd
open Option.some renaming injEq → Ze
open Prod.mk renaming injEq → Y5
namespace Go.Abs
open Go.Proofs
abbrev LA:=List AI
def φ (n:Int):AX:=.v (.k (.c (.int .i64 n)))
def χ (b:Bool):AX:=.v (.k (.c (.bool b)))
def θ (d s:Nat):AI:=.mk none (.mov d (.t s))
def ψ (d n s:Nat):AI:=.mk none (.load d n false (.t s))
def ω (d n s:Nat):AI:=.mk none (.load d n true (.t s))
def Γ (d n s:Nat):AI:=.mk none (.faddr d n (.t s))
def Δ (d s n:Nat):AI:=.mk none (.extr d (.t s) n)
def Θ (d f a:Nat):AI:=.mk none (.call (some d) f [.t a])
def Ξ (d f a b:Nat):AI:=.mk none (.call (some d) f [.t a,.t b])
def Φ (n a b:Nat):AI:=.mk none (.store n (.t a) (.t b))
def Ψ (d n a b:Nat):AI:=.mk none (.iaddr d n (.t a) (.t b))
def Ω (d a:Nat):AI:=.mk none (.len d (.t a))
def xB (d n a:Nat):AI:=.mk none (.box d n (.t a))
def vX (d:Nat) (o:BinOp) (a b:Nat):AI:=.mk none (.bin d o (.t a) (.t b))
def kI (g:Nat) (o:AOp):AI:=.mk (some (g,true)) o
def zAA (g:Nat) (o:AOp):AI:=.mk (some (g,false)) o
def η (o:AOp):AI:=.mk none o
def ζ (l:LA) (a:AQ):AQ:=.seq (.region l) a
theorem ξ {a b:Prop} (h:a) (g:b):a/\b:=⟨h,g⟩
theorem uu {a b:AQ} (h:a=b) (P ts os Q):awl P a Q ts os=awl P b Q ts os:=h▸rfl
theorem vv {α:Type} {a b:α} (h:a=b):a=b:=h
def f92r1:LA:=[θ 3 0,η (.bin 4 .neq (.t 3) (.v (.k (.c (.str []))))),θ 5 4,kI 5 (.mov 6 (.t 0)),kI 5 (.sidx 7 (.t 6) (φ 0)),kI 5 (.call (some 8) 125 [(.t 7)]),η (.pick 9 (.t 5) (.t 8) (χ false)),θ 10 9,kI 10 (.mov 11 (.t 0)),kI 10 (.lenS 12 (.t 11)),kI 10 (.bin 13 .leq (.t 12) (φ 20)),η (.pick 14 (.t 10) (.t 13) (χ false)),θ 15 14,kI 15 (.mov 16 (.t 0)),kI 15 (.call (some 17) 126 [(.t 16),(.v (.k (.c (.fn 127 []))))]),kI 15 (.mov 18 (.t 0)),kI 15 (.lenS 19 (.t 18)),kI 15 (.bin 20 .eql (.t 17) (.t 19)),η (.pick 21 (.t 15) (.t 20) (χ false)),θ 2 21]
def f92b2:AQ:=ζ f92r1 .ret
def f92r3:LA:=[η (.mov 2 (χ false))]
def f92b4:AQ:=ζ f92r3 f92b2
def f92:AQ:=f92b4
theorem hf92:zH Tryz.prog 92=some ⟨22,f92.erase,[(RX.t 2)]⟩:=by kernel_rfl
theorem okf92:f92.ok=true:=by kernel_rfl
def Υ92:=PLift.up (ξ (uu f92.eq_1)<|ξ (vv f92r1.eq_1)<|ξ (uu f92b2.eq_1)<|ξ (vv f92r3.eq_1)<|uu f92b4.eq_1)
theorem Ψ92:type_of% Υ92.1:=Υ92.1
def f125r1:LA:=[θ 3 0,η (.bin 4 .geq (.t 3) (.v (.k (.c (.int .u8 97))))),θ 5 4,kI 5 (.mov 6 (.t 0)),kI 5 (.bin 7 .leq (.t 6) (.v (.k (.c (.int .u8 122))))),η (.pick 8 (.t 5) (.t 7) (χ false)),θ 9 8,zAA 9 (.mov 10 (.t 0)),zAA 9 (.bin 11 .geq (.t 10) (.v (.k (.c (.int .u8 65))))),zAA 9 (.mov 12 (.t 11)),kI 12 (.mov 13 (.t 0)),kI 12 (.bin 14 .leq (.t 13) (.v (.k (.c (.int .u8 90))))),zAA 9 (.pick 15 (.t 12) (.t 14) (χ false)),η (.pick 16 (.t 9) (χ true) (.t 15)),θ 2 16]
def f125b2:AQ:=ζ f125r1 .ret
def f125r3:LA:=[η (.mov 2 (χ false))]
def f125b4:AQ:=ζ f125r3 f125b2
def f125:AQ:=f125b4
theorem hf125:zH Tryz.prog 125=some ⟨17,f125.erase,[(RX.t 2)]⟩:=by kernel_rfl
theorem okf125:f125.ok=true:=by kernel_rfl
def Υ125:=PLift.up (ξ (uu f125.eq_1)<|ξ (vv f125r1.eq_1)<|ξ (uu f125b2.eq_1)<|ξ (vv f125r3.eq_1)<|uu f125b4.eq_1)
theorem Ψ125:type_of% Υ125.1:=Υ125.1
def f126r1:LA:=[θ 19 5,θ 4 19]
def f126b2:AQ:=ζ f126r1 .ret
def f126r3:LA:=[θ 17 5,η (.bin 18 .add (.t 17) (φ 1)),θ 5 18]
def f126b4:AQ:=.block 1 (.region f126r3)
def f126b5:AQ:=.cond (.t 16) .skip (.exit 0)
def f126r6:LA:=[θ 6 5,θ 7 0,η (.lenS 8 (.t 7)),vX 9 .lss 6 8,θ 10 9,kI 10 (.mov 11 (.t 1)),kI 10 (.mov 12 (.t 0)),kI 10 (.mov 13 (.t 5)),kI 10 (.sidx 14 (.t 12) (.t 13)),kI 10 (.callv (some 15) (.t 11) [(.t 14)]),η (.pick 16 (.t 10) (.t 15) (χ false))]
def f126b7:AQ:=ζ f126r6 f126b5
def f126b8:AQ:=.seq f126b7 f126b4
def f126l9:AQ:=.loop [0,1,5] [] f126b8
def f126b10:AQ:=.block 0 f126l9
def f126b11:AQ:=.seq f126b10 f126b2
def f126r12:LA:=[η (.mov 5 (φ 0))]
def f126b13:AQ:=ζ f126r12 f126b11
def f126r14:LA:=[η (.mov 4 (φ 0))]
def f126b15:AQ:=ζ f126r14 f126b13
def f126:AQ:=f126b15
theorem hf126:zH Tryz.prog 126=some ⟨20,f126.erase,[(RX.t 4)]⟩:=by kernel_rfl
theorem okf126:f126.ok=true:=by kernel_rfl
def Υ126:=PLift.up (ξ (uu f126.eq_1)<|ξ (uu f126b10.eq_1)<|ξ (uu f126b11.eq_1)<|ξ (vv f126r12.eq_1)<|ξ (uu f126b13.eq_1)<|ξ (vv f126r14.eq_1)<|ξ (uu f126b15.eq_1)<|ξ (vv f126r6.eq_1)<|ξ (uu f126b7.eq_1)<|ξ (uu f126b8.eq_1)<|ξ (vv f126r3.eq_1)<|ξ (uu f126b4.eq_1)<|ξ (uu f126b5.eq_1)<|ξ (vv f126r1.eq_1)<|uu f126b2.eq_1)
theorem Ψ126:type_of% Υ126.1:=Υ126.1
def f127r1:LA:=[θ 3 0,Θ 4 125 3,θ 5 4,zAA 5 (.mov 6 (.t 0)),zAA 5 (.call (some 7) 160 [(.t 6)]),η (.pick 8 (.t 5) (χ true) (.t 7)),θ 9 8,zAA 9 (.mov 10 (.t 0)),zAA 9 (.bin 11 .eql (.t 10) (.v (.k (.c (.int .u8 95))))),η (.pick 12 (.t 9) (χ true) (.t 11)),θ 2 12]
def f127b2:AQ:=ζ f127r1 .ret
def f127r3:LA:=[η (.mov 2 (χ false))]
def f127b4:AQ:=ζ f127r3 f127b2
def f127:AQ:=f127b4
theorem hf127:zH Tryz.prog 127=some ⟨13,f127.erase,[(RX.t 2)]⟩:=by kernel_rfl
theorem okf127:f127.ok=true:=by kernel_rfl
def Υ127:=PLift.up (ξ (uu f127.eq_1)<|ξ (vv f127r1.eq_1)<|ξ (uu f127b2.eq_1)<|ξ (vv f127r3.eq_1)<|uu f127b4.eq_1)
theorem Ψ127:type_of% Υ127.1:=Υ127.1
def f160r1:LA:=[θ 3 0,η (.bin 4 .geq (.t 3) (.v (.k (.c (.int .u8 48))))),θ 5 4,kI 5 (.mov 6 (.t 0)),kI 5 (.bin 7 .leq (.t 6) (.v (.k (.c (.int .u8 57))))),η (.pick 8 (.t 5) (.t 7) (χ false)),θ 2 8]
def f160b2:AQ:=ζ f160r1 .ret
def f160r3:LA:=[η (.mov 2 (χ false))]
def f160b4:AQ:=ζ f160r3 f160b2
def f160:AQ:=f160b4
theorem hf160:zH Tryz.prog 160=some ⟨9,f160.erase,[(RX.t 2)]⟩:=by kernel_rfl
theorem okf160:f160.ok=true:=by kernel_rfl
def Υ160:=PLift.up (ξ (uu f160.eq_1)<|ξ (vv f160r1.eq_1)<|ξ (uu f160b2.eq_1)<|ξ (vv f160r3.eq_1)<|uu f160b4.eq_1)
theorem Ψ160:type_of% Υ160.1:=Υ160.1
def f59r1:LA:=[θ 3 0,η (.bin 4 .neq (.t 3) (.v (.k (.c (.str []))))),θ 5 4,kI 5 (.mov 6 (.t 0)),kI 5 (.lenS 7 (.t 6)),kI 5 (.bin 8 .leq (.t 7) (φ 20)),η (.pick 9 (.t 5) (.t 8) (χ false)),θ 10 9,kI 10 (.mov 11 (.t 0)),kI 10 (.call (some 12) 97 [(.t 11),(.v (.k (.c (.fn 98 []))))]),kI 10 (.bin 13 .lss (.t 12) (φ 0)),η (.pick 14 (.t 10) (.t 13) (χ false)),θ 2 14]
def f59b2:AQ:=ζ f59r1 .ret
def f59r3:LA:=[η (.mov 2 (χ false))]
def f59b4:AQ:=ζ f59r3 f59b2
def f59:AQ:=f59b4
theorem hf59:zH Tryz.prog 59=some ⟨15,f59.erase,[(RX.t 2)]⟩:=by kernel_rfl
theorem okf59:f59.ok=true:=by kernel_rfl
def Υ59:=PLift.up (ξ (uu f59.eq_1)<|ξ (vv f59r1.eq_1)<|ξ (uu f59b2.eq_1)<|ξ (vv f59r3.eq_1)<|uu f59b4.eq_1)
theorem Ψ59:type_of% Υ59.1:=Υ59.1
def f95r1:LA:=[η (.mov 2 (φ 0))]
def f95b2:AQ:=ζ f95r1 .ret
def f95r3:LA:=[η (.bin 31 .add (.t 20) (φ 1)),θ 20 31]
def f95r4:LA:=[η (.mov 2 (φ 5))]
def f95b5:AQ:=ζ f95r4 .ret
def f95b6:AQ:=.cond (.t 30) f95b5 .skip
def f95r7:LA:=[θ 23 3,θ 24 4,η (.slice 25 1 (.t 23) none (some (.t 24))),θ 26 3,θ 27 4,Ψ 28 1 26 27,ψ 29 1 28,Ξ 30 130 25 29]
def f95b8:AQ:=.seq (.draw f95r7 [[],[],[0,1],[],[],[3,4],[5],[2,6]]) f95b6
def f95r9:LA:=[θ 22 20,θ 4 22]
def f95b10:AQ:=ζ f95r9 f95b8
def f95b11:AQ:=.block 2 f95b10
def f95b12:AQ:=.seq f95b11 (.region f95r3)
def f95b13:AQ:=.cond (.t 21) .skip (.exit 1)
def f95b14:AQ:=.seq f95b13 f95b12
def f95r15:LA:=[vX 21 .lss 20 19]
def f95b16:AQ:=ζ f95r15 f95b14
def f95l17:AQ:=.loop [3,19,20] [] f95b16
def f95b18:AQ:=.block 1 f95l17
def f95r19:LA:=[θ 18 3,Ω 19 18,η (.mov 20 (φ 0))]
def f95b20:AQ:=ζ f95r19 f95b18
def f95b21:AQ:=.seq f95b20 f95b2
def f95r22:LA:=[η (.mov 2 (φ 6))]
def f95b23:AQ:=ζ f95r22 .ret
def f95r24:LA:=[η (.mov 2 (φ 4))]
def f95b25:AQ:=ζ f95r24 .ret
def f95r26:LA:=[η (.mov 2 (φ 2))]
def f95b27:AQ:=ζ f95r26 .ret
def f95b28:AQ:=.cond (.t 15) f95b27 .skip
def f95r29:LA:=[θ 16 3,η (.call (some 17) 57 [(.t 16),(.v (.k (.c (.fn 129 []))))]),θ 15 17]
def f95b30:AQ:=ζ f95r29 f95b28
def f95b31:AQ:=.cond (.t 11) f95b25 f95b30
def f95r32:LA:=[θ 12 3,Ω 13 12,η (.bin 14 .eql (.t 13) (φ 0)),θ 11 14]
def f95b33:AQ:=ζ f95r32 f95b31
def f95b34:AQ:=.cond (.t 7) f95b23 f95b33
def f95r35:LA:=[θ 8 3,Ω 9 8,η (.bin 10 .gtr (.t 9) (φ 4)),θ 7 10]
def f95b36:AQ:=ζ f95r35 f95b34
def f95b37:AQ:=.block 0 f95b36
def f95b38:AQ:=.seq f95b37 f95b21
def f95r39:LA:=[Γ 5 0 1,ψ 6 1 5,θ 3 6]
def f95b40:AQ:=ζ f95r39 f95b38
def f95r41:LA:=[xB 1 109 0,η (.mov 2 (φ 0))]
def f95b42:AQ:=ζ f95r41 (.frz 1 f95b40)
def f95:AQ:=f95b42
theorem hf95:zH Tryz.prog 95=some ⟨32,f95.erase,[(RX.t 2)]⟩:=by kernel_rfl
theorem okf95:f95.ok=true:=by kernel_rfl
def Υ95:=PLift.up (ξ (uu f95.eq_1)<|ξ (vv f95r22.eq_1)<|ξ (uu f95b23.eq_1)<|ξ (uu f95b34.eq_1)<|ξ (vv f95r35.eq_1)<|ξ (uu f95b36.eq_1)<|ξ (uu f95b37.eq_1)<|ξ (uu f95b38.eq_1)<|ξ (vv f95r39.eq_1)<|ξ (uu f95b40.eq_1)<|ξ (vv f95r41.eq_1)<|ξ (uu f95b42.eq_1)<|ξ (vv f95r24.eq_1)<|ξ (uu f95b25.eq_1)<|ξ (uu f95b31.eq_1)<|ξ (vv f95r32.eq_1)<|ξ (uu f95b33.eq_1)<|ξ (vv f95r29.eq_1)<|ξ (uu f95b30.eq_1)<|ξ (uu f95b18.eq_1)<|ξ (vv f95r19.eq_1)<|ξ (uu f95b20.eq_1)<|ξ (uu f95b21.eq_1)<|ξ (uu f95b28.eq_1)<|ξ (vv f95r3.eq_1)<|ξ (vv f95r7.eq_1)<|ξ (uu f95b8.eq_1)<|ξ (vv f95r9.eq_1)<|ξ (uu f95b10.eq_1)<|ξ (uu f95b11.eq_1)<|ξ (uu f95b12.eq_1)<|ξ (uu f95b13.eq_1)<|ξ (uu f95b14.eq_1)<|ξ (vv f95r15.eq_1)<|ξ (uu f95b16.eq_1)<|ξ (vv f95r4.eq_1)<|ξ (uu f95b5.eq_1)<|ξ (uu f95b6.eq_1)<|ξ (vv f95r1.eq_1)<|ξ (uu f95b2.eq_1)<|ξ (vv f95r26.eq_1)<|uu f95b27.eq_1)
theorem Ψ95:type_of% Υ95.1:=Υ95.1
def f129r1:LA:=[θ 3 0,Θ 4 59 3,η (.un 5 .not (.t 4)),θ 2 5]
def f129b2:AQ:=ζ f129r1 .ret
def f129r3:LA:=[η (.mov 2 (χ false))]
def f129b4:AQ:=ζ f129r3 f129b2
def f129:AQ:=f129b4
theorem hf129:zH Tryz.prog 129=some ⟨6,f129.erase,[(RX.t 2)]⟩:=by kernel_rfl
theorem okf129:f129.ok=true:=by kernel_rfl
def Υ129:=PLift.up (ξ (uu f129.eq_1)<|ξ (vv f129r1.eq_1)<|ξ (uu f129b2.eq_1)<|ξ (vv f129r3.eq_1)<|uu f129b4.eq_1)
theorem Ψ129:type_of% Υ129.1:=Υ129.1
def f130r1:LA:=[θ 5 0,θ 6 1,Ξ 7 40 5 6,η (.bin 8 .geq (.t 7) (φ 0)),θ 4 8]
def f130b2:AQ:=ζ f130r1 .ret
def f130r3:LA:=[η (.mov 4 (χ false))]
def f130b4:AQ:=ζ f130r3 f130b2
def f130:AQ:=f130b4
theorem hf130:zH Tryz.prog 130=some ⟨9,f130.erase,[(RX.t 4)]⟩:=by kernel_rfl
theorem okf130:f130.ok=true:=by kernel_rfl
def Υ130:=PLift.up (ξ (uu f130.eq_1)<|ξ (vv f130r1.eq_1)<|ξ (uu f130b2.eq_1)<|ξ (vv f130r3.eq_1)<|uu f130b4.eq_1)
theorem Ψ130:type_of% Υ130.1:=Υ130.1
def f96r1:LA:=[η (.mov 4 (.v (.k (.c (.int .i64 (-1))))))]
def f96b2:AQ:=ζ f96r1 .ret
def f96r3:LA:=[η (.bin 18 .add (.t 8) (φ 1)),θ 8 18]
def f96r4:LA:=[θ 17 5,θ 4 17]
def f96b5:AQ:=ζ f96r4 .ret
def f96b6:AQ:=.cond (.t 16) f96b5 .skip
def f96r7:LA:=[θ 11 1,θ 12 0,θ 13 5,Ψ 14 1 12 13,ψ 15 1 14,η (.callv (some 16) (.t 11) [(.t 15)])]
def f96b8:AQ:=ζ f96r7 f96b6
def f96r9:LA:=[θ 10 8,θ 5 10]
def f96b10:AQ:=ζ f96r9 f96b8
def f96b11:AQ:=.block 1 f96b10
def f96b12:AQ:=.seq f96b11 (.region f96r3)
def f96b13:AQ:=.cond (.t 9) .skip (.exit 0)
def f96b14:AQ:=.seq f96b13 f96b12
def f96r15:LA:=[vX 9 .lss 8 7]
def f96b16:AQ:=ζ f96r15 f96b14
def f96l17:AQ:=.loop [0,1,7,8] [] f96b16
def f96b18:AQ:=.block 0 f96l17
def f96r19:LA:=[θ 6 0,Ω 7 6,η (.mov 8 (φ 0))]
def f96b20:AQ:=ζ f96r19 f96b18
def f96b21:AQ:=.seq f96b20 f96b2
def f96r22:LA:=[η (.mov 4 (φ 0))]
def f96b23:AQ:=ζ f96r22 f96b21
def f96:AQ:=f96b23
theorem hf96:zH Tryz.prog 96=some ⟨19,f96.erase,[(RX.t 4)]⟩:=by kernel_rfl
theorem okf96:f96.ok=true:=by kernel_rfl
def Υ96:=PLift.up (ξ (uu f96.eq_1)<|ξ (uu f96b18.eq_1)<|ξ (vv f96r19.eq_1)<|ξ (uu f96b20.eq_1)<|ξ (uu f96b21.eq_1)<|ξ (vv f96r22.eq_1)<|ξ (uu f96b23.eq_1)<|ξ (vv f96r3.eq_1)<|ξ (vv f96r7.eq_1)<|ξ (uu f96b8.eq_1)<|ξ (vv f96r9.eq_1)<|ξ (uu f96b10.eq_1)<|ξ (uu f96b11.eq_1)<|ξ (uu f96b12.eq_1)<|ξ (uu f96b13.eq_1)<|ξ (uu f96b14.eq_1)<|ξ (vv f96r15.eq_1)<|ξ (uu f96b16.eq_1)<|ξ (vv f96r4.eq_1)<|ξ (uu f96b5.eq_1)<|ξ (uu f96b6.eq_1)<|ξ (vv f96r1.eq_1)<|uu f96b2.eq_1)
theorem Ψ96:type_of% Υ96.1:=Υ96.1
def f55r1:LA:=[η (.mov 2 (φ 0))]
def f55b2:AQ:=ζ f55r1 .ret
def f55r3:LA:=[η (.bin 54 .add (.t 19) (φ 1)),θ 19 54]
def f55r4:LA:=[η (.bin 53 .add (.t 44) (φ 1)),θ 44 53]
def f55r5:LA:=[θ 52 7,θ 2 52]
def f55b6:AQ:=ζ f55r5 .ret
def f55b7:AQ:=.cond (.t 51) f55b6 .skip
def f55r8:LA:=[θ 50 7,η (.bin 51 .neq (.t 50) (φ 0))]
def f55b9:AQ:=ζ f55r8 f55b7
def f55r10:LA:=[ω 48 1 6,Θ 49 95 48,θ 7 49]
def f55b11:AQ:=ζ f55r10 f55b9
def f55r12:LA:=[Ψ 46 1 42 44,ω 47 1 46,η (.alloc 6 109 [(.list 0 (some true) [])]),Φ 1 6 47]
def f55b13:AQ:=ζ f55r12 (.frz 6 f55b11)
def f55b14:AQ:=.block 4 f55b13
def f55b15:AQ:=.seq f55b14 (.region f55r4)
def f55b16:AQ:=.cond (.t 45) .skip (.exit 3)
def f55b17:AQ:=.seq f55b16 f55b15
def f55r18:LA:=[vX 45 .lss 44 43]
def f55b19:AQ:=ζ f55r18 f55b17
def f55l20:AQ:=.loop [1,17,18,19,42,43,44] [1] f55b19
def f55b21:AQ:=.block 3 f55l20
def f55r22:LA:=[Γ 41 1 4,ψ 42 1 41,Ω 43 42,η (.mov 44 (φ 0))]
def f55b23:AQ:=ζ f55r22 f55b21
def f55r24:LA:=[η (.mov 2 (φ 2))]
def f55b25:AQ:=ζ f55r24 .ret
def f55r26:LA:=[η (.mov 2 (φ 5))]
def f55b27:AQ:=ζ f55r26 .ret
def f55r28:LA:=[η (.mov 2 (φ 6))]
def f55b29:AQ:=ζ f55r28 .ret
def f55b30:AQ:=.cond (.t 36) f55b29 .skip
def f55r31:LA:=[Γ 37 1 4,ψ 38 1 37,Ω 39 38,η (.bin 40 .gtr (.t 39) (φ 8)),θ 36 40]
def f55b32:AQ:=ζ f55r31 f55b30
def f55b33:AQ:=.cond (.t 29) f55b27 f55b32
def f55r34:LA:=[Γ 30 1 1,ψ 31 1 30,θ 32 3,η (.slice 33 2 (.t 31) none (some (.t 32))),η (.mkfn 34 94 [(.t 4)]),Ξ 35 93 33 34,θ 29 35]
def f55b35:AQ:=ζ f55r34 f55b33
def f55b36:AQ:=.cond (.t 24) f55b25 f55b35
def f55r37:LA:=[Γ 25 0 4,ψ 26 1 25,Θ 27 92 26,η (.un 28 .not (.t 27)),θ 24 28]
def f55b38:AQ:=ζ f55r37 f55b36
def f55b39:AQ:=.block 2 f55b38
def f55b40:AQ:=.seq f55b39 f55b23
def f55r41:LA:=[θ 21 19,Ψ 22 2 17 19,ω 23 2 22,η (.alloc 4 107 [(.str []),(.list 0 (some true) [])]),θ 3 21,Φ 2 4 23]
def f55b42:AQ:=ζ f55r41 (.frz 4 f55b40)
def f55b43:AQ:=.block 1 f55b42
def f55b44:AQ:=.seq f55b43 (.region f55r3)
def f55b45:AQ:=.cond (.t 20) .skip (.exit 0)
def f55b46:AQ:=.seq f55b45 f55b44
def f55r47:LA:=[vX 20 .lss 19 18]
def f55b48:AQ:=ζ f55r47 f55b46
def f55l49:AQ:=.loop [1,17,18,19] [1] f55b48
def f55b50:AQ:=.block 0 f55l49
def f55r51:LA:=[Γ 16 1 1,ψ 17 1 16,Ω 18 17,η (.mov 19 (φ 0))]
def f55b52:AQ:=ζ f55r51 f55b50
def f55b53:AQ:=.seq f55b52 f55b2
def f55r54:LA:=[η (.mov 2 (φ 6))]
def f55b55:AQ:=ζ f55r54 .ret
def f55b56:AQ:=.cond (.t 15) f55b55 .skip
def f55r57:LA:=[Γ 12 1 1,ψ 13 1 12,Ω 14 13,η (.bin 15 .gtr (.t 14) (φ 12))]
def f55b58:AQ:=ζ f55r57 f55b56
def f55b59:AQ:=.seq f55b58 f55b53
def f55r60:LA:=[η (.mov 2 (φ 2))]
def f55b61:AQ:=ζ f55r60 .ret
def f55b62:AQ:=.cond (.t 11) f55b61 .skip
def f55r63:LA:=[Γ 8 0 1,ψ 9 1 8,Θ 10 92 9,η (.un 11 .not (.t 10))]
def f55b64:AQ:=ζ f55r63 f55b62
def f55b65:AQ:=.seq f55b64 f55b59
def f55r66:LA:=[xB 1 58 0,η (.mov 2 (φ 0))]
def f55b67:AQ:=ζ f55r66 (.frz 1 f55b65)
def f55:AQ:=f55b67
theorem hf55:zH Tryz.prog 55=some ⟨55,f55.erase,[(RX.t 2)]⟩:=by kernel_rfl
theorem okf55:f55.ok=true:=by kernel_rfl
def Υ55:=PLift.up (ξ (uu f55.eq_1)<|ξ (vv f55r63.eq_1)<|ξ (uu f55b64.eq_1)<|ξ (uu f55b65.eq_1)<|ξ (vv f55r66.eq_1)<|ξ (uu f55b67.eq_1)<|ξ (vv f55r60.eq_1)<|ξ (uu f55b61.eq_1)<|ξ (uu f55b62.eq_1)<|ξ (vv f55r54.eq_1)<|ξ (uu f55b55.eq_1)<|ξ (uu f55b56.eq_1)<|ξ (vv f55r57.eq_1)<|ξ (uu f55b58.eq_1)<|ξ (uu f55b59.eq_1)<|ξ (uu f55b50.eq_1)<|ξ (vv f55r51.eq_1)<|ξ (uu f55b52.eq_1)<|ξ (uu f55b53.eq_1)<|ξ (vv f55r3.eq_1)<|ξ (vv f55r37.eq_1)<|ξ (uu f55b38.eq_1)<|ξ (uu f55b39.eq_1)<|ξ (uu f55b40.eq_1)<|ξ (vv f55r41.eq_1)<|ξ (uu f55b42.eq_1)<|ξ (uu f55b43.eq_1)<|ξ (uu f55b44.eq_1)<|ξ (uu f55b45.eq_1)<|ξ (uu f55b46.eq_1)<|ξ (vv f55r47.eq_1)<|ξ (uu f55b48.eq_1)<|ξ (vv f55r24.eq_1)<|ξ (uu f55b25.eq_1)<|ξ (uu f55b36.eq_1)<|ξ (vv f55r34.eq_1)<|ξ (uu f55b35.eq_1)<|ξ (vv f55r26.eq_1)<|ξ (uu f55b27.eq_1)<|ξ (uu f55b33.eq_1)<|ξ (vv f55r28.eq_1)<|ξ (uu f55b29.eq_1)<|ξ (uu f55b30.eq_1)<|ξ (vv f55r31.eq_1)<|ξ (uu f55b32.eq_1)<|ξ (uu f55b21.eq_1)<|ξ (vv f55r22.eq_1)<|ξ (uu f55b23.eq_1)<|ξ (vv f55r4.eq_1)<|ξ (vv f55r10.eq_1)<|ξ (uu f55b11.eq_1)<|ξ (vv f55r12.eq_1)<|ξ (uu f55b13.eq_1)<|ξ (uu f55b14.eq_1)<|ξ (uu f55b15.eq_1)<|ξ (uu f55b16.eq_1)<|ξ (uu f55b17.eq_1)<|ξ (vv f55r18.eq_1)<|ξ (uu f55b19.eq_1)<|ξ (uu f55b7.eq_1)<|ξ (vv f55r8.eq_1)<|ξ (uu f55b9.eq_1)<|ξ (vv f55r5.eq_1)<|ξ (uu f55b6.eq_1)<|ξ (vv f55r1.eq_1)<|uu f55b2.eq_1)
theorem Ψ55:type_of% Υ55.1:=Υ55.1
def f94r1:LA:=[Γ 4 0 2,ψ 5 1 4,Γ 6 0 1,ψ 7 1 6,vX 8 .eql 5 7,θ 3 8]
def f94b2:AQ:=ζ f94r1 .ret
def f94r3:LA:=[xB 2 107 0,η (.mov 3 (χ false))]
def f94b4:AQ:=ζ f94r3 (.frz 2 f94b2)
def f94:AQ:=f94b4
theorem hf94:zH Tryz.prog 94=some ⟨9,f94.erase,[(RX.t 3)]⟩:=by kernel_rfl
theorem okf94:f94.ok=true:=by kernel_rfl
def Υ94:=PLift.up (ξ (uu f94.eq_1)<|ξ (vv f94r1.eq_1)<|ξ (uu f94b2.eq_1)<|ξ (vv f94r3.eq_1)<|uu f94b4.eq_1)
theorem Ψ94:type_of% Υ94.1:=Υ94.1
def f93r1:LA:=[θ 5 0,θ 6 1,Ξ 7 128 5 6,η (.bin 8 .geq (.t 7) (φ 0)),θ 4 8]
def f93b2:AQ:=ζ f93r1 .ret
def f93r3:LA:=[η (.mov 4 (χ false))]
def f93b4:AQ:=ζ f93r3 f93b2
def f93:AQ:=f93b4
theorem hf93:zH Tryz.prog 93=some ⟨9,f93.erase,[(RX.t 4)]⟩:=by kernel_rfl
theorem okf93:f93.ok=true:=by kernel_rfl
def Υ93:=PLift.up (ξ (uu f93.eq_1)<|ξ (vv f93r1.eq_1)<|ξ (uu f93b2.eq_1)<|ξ (vv f93r3.eq_1)<|uu f93b4.eq_1)
theorem Ψ93:type_of% Υ93.1:=Υ93.1
def f128r1:LA:=[η (.mov 4 (.v (.k (.c (.int .i64 (-1))))))]
def f128b2:AQ:=ζ f128r1 .ret
def f128r3:LA:=[η (.bin 18 .add (.t 8) (φ 1)),θ 8 18]
def f128r4:LA:=[θ 17 5,θ 4 17]
def f128b5:AQ:=ζ f128r4 .ret
def f128b6:AQ:=.cond (.t 16) f128b5 .skip
def f128r7:LA:=[θ 11 1,θ 12 0,θ 13 5,Ψ 14 2 12 13,ω 15 2 14,η (.callv (some 16) (.t 11) [(.t 15)])]
def f128b8:AQ:=ζ f128r7 f128b6
def f128r9:LA:=[θ 10 8,θ 5 10]
def f128b10:AQ:=ζ f128r9 f128b8
def f128b11:AQ:=.block 1 f128b10
def f128b12:AQ:=.seq f128b11 (.region f128r3)
def f128b13:AQ:=.cond (.t 9) .skip (.exit 0)
def f128b14:AQ:=.seq f128b13 f128b12
def f128r15:LA:=[vX 9 .lss 8 7]
def f128b16:AQ:=ζ f128r15 f128b14
def f128l17:AQ:=.loop [0,1,7,8] [] f128b16
def f128b18:AQ:=.block 0 f128l17
def f128r19:LA:=[θ 6 0,Ω 7 6,η (.mov 8 (φ 0))]
def f128b20:AQ:=ζ f128r19 f128b18
def f128b21:AQ:=.seq f128b20 f128b2
def f128r22:LA:=[η (.mov 4 (φ 0))]
def f128b23:AQ:=ζ f128r22 f128b21
def f128:AQ:=f128b23
theorem hf128:zH Tryz.prog 128=some ⟨19,f128.erase,[(RX.t 4)]⟩:=by kernel_rfl
theorem okf128:f128.ok=true:=by kernel_rfl
def Υ128:=PLift.up (ξ (uu f128.eq_1)<|ξ (uu f128b18.eq_1)<|ξ (vv f128r19.eq_1)<|ξ (uu f128b20.eq_1)<|ξ (uu f128b21.eq_1)<|ξ (vv f128r22.eq_1)<|ξ (uu f128b23.eq_1)<|ξ (vv f128r3.eq_1)<|ξ (vv f128r7.eq_1)<|ξ (uu f128b8.eq_1)<|ξ (vv f128r9.eq_1)<|ξ (uu f128b10.eq_1)<|ξ (uu f128b11.eq_1)<|ξ (uu f128b12.eq_1)<|ξ (uu f128b13.eq_1)<|ξ (uu f128b14.eq_1)<|ξ (vv f128r15.eq_1)<|ξ (uu f128b16.eq_1)<|ξ (vv f128r4.eq_1)<|ξ (uu f128b5.eq_1)<|ξ (uu f128b6.eq_1)<|ξ (vv f128r1.eq_1)<|uu f128b2.eq_1)
theorem Ψ128:type_of% Υ128.1:=Υ128.1
def f57r1:LA:=[θ 5 0,θ 6 1,Ξ 7 96 5 6,η (.bin 8 .geq (.t 7) (φ 0)),θ 4 8]
def f57b2:AQ:=ζ f57r1 .ret
def f57r3:LA:=[η (.mov 4 (χ false))]
def f57b4:AQ:=ζ f57r3 f57b2
def f57:AQ:=f57b4
theorem hf57:zH Tryz.prog 57=some ⟨9,f57.erase,[(RX.t 4)]⟩:=by kernel_rfl
theorem okf57:f57.ok=true:=by kernel_rfl
def Υ57:=PLift.up (ξ (uu f57.eq_1)<|ξ (vv f57r1.eq_1)<|ξ (uu f57b2.eq_1)<|ξ (vv f57r3.eq_1)<|uu f57b4.eq_1)
theorem Ψ57:type_of% Υ57.1:=Υ57.1
def f56r1:LA:=[ω 5 2 2,Θ 6 55 5,η (.bin 7 .eql (.t 6) (φ 0)),θ 8 7,kI 8 (.mov 9 (.t 1)),kI 8 (.bin 10 .geq (.t 9) (φ 0)),η (.pick 11 (.t 8) (.t 10) (χ false)),θ 12 11,kI 12 (.mov 13 (.t 1)),kI 12 (.faddr 14 1 (.t 2)),kI 12 (.load 15 1 false (.t 14)),kI 12 (.len 16 (.t 15)),kI 12 (.bin 17 .lss (.t 13) (.t 16)),η (.pick 18 (.t 12) (.t 17) (χ false)),θ 4 18]
def f56b2:AQ:=ζ f56r1 .ret
def f56r3:LA:=[xB 2 58 0,η (.mov 4 (χ false))]
def f56b4:AQ:=ζ f56r3 (.frz 2 f56b2)
def f56:AQ:=f56b4
theorem hf56:zH Tryz.prog 56=some ⟨19,f56.erase,[(RX.t 4)]⟩:=by kernel_rfl
theorem okf56:f56.ok=true:=by kernel_rfl
def Υ56:=PLift.up (ξ (uu f56.eq_1)<|ξ (vv f56r1.eq_1)<|ξ (uu f56b2.eq_1)<|ξ (vv f56r3.eq_1)<|uu f56b4.eq_1)
theorem Ψ56:type_of% Υ56.1:=Υ56.1
def f61r1:LA:=[θ 19 3,θ 2 19]
def f61b2:AQ:=ζ f61r1 .ret
def f61r3:LA:=[η (.bin 18 .add (.t 9) (φ 1)),θ 9 18]
def f61r4:LA:=[θ 13 3,Γ 14 0 5,ψ 15 1 14,Ω 16 15,vX 17 .mul 13 16,θ 3 17]
def f61r5:LA:=[Ψ 11 1 7 9,ω 12 1 11,η (.alloc 5 109 [(.list 0 (some true) [])]),Φ 1 5 12]
def f61b6:AQ:=ζ f61r5 (.frz 5 (.region f61r4))
def f61b7:AQ:=.block 1 f61b6
def f61b8:AQ:=.seq f61b7 (.region f61r3)
def f61b9:AQ:=.cond (.t 10) .skip (.exit 0)
def f61b10:AQ:=.seq f61b9 f61b8
def f61r11:LA:=[vX 10 .lss 9 8]
def f61b12:AQ:=ζ f61r11 f61b10
def f61l13:AQ:=.loop [3,7,8,9] [] f61b12
def f61b14:AQ:=.block 0 f61l13
def f61r15:LA:=[Γ 6 1 1,ψ 7 1 6,Ω 8 7,η (.mov 9 (φ 0))]
def f61b16:AQ:=ζ f61r15 f61b14
def f61b17:AQ:=.seq f61b16 f61b2
def f61r18:LA:=[η (.mov 3 (φ 1))]
def f61b19:AQ:=ζ f61r18 f61b17
def f61r20:LA:=[xB 1 107 0,η (.mov 2 (φ 0))]
def f61b21:AQ:=ζ f61r20 (.frz 1 f61b19)
def f61:AQ:=f61b21
theorem hf61:zH Tryz.prog 61=some ⟨20,f61.erase,[(RX.t 2)]⟩:=by kernel_rfl
theorem okf61:f61.ok=true:=by kernel_rfl
def Υ61:=PLift.up (ξ (uu f61.eq_1)<|ξ (uu f61b14.eq_1)<|ξ (vv f61r15.eq_1)<|ξ (uu f61b16.eq_1)<|ξ (uu f61b17.eq_1)<|ξ (vv f61r18.eq_1)<|ξ (uu f61b19.eq_1)<|ξ (vv f61r20.eq_1)<|ξ (uu f61b21.eq_1)<|ξ (vv f61r3.eq_1)<|ξ (vv f61r4.eq_1)<|ξ (vv f61r5.eq_1)<|ξ (uu f61b6.eq_1)<|ξ (uu f61b7.eq_1)<|ξ (uu f61b8.eq_1)<|ξ (uu f61b9.eq_1)<|ξ (uu f61b10.eq_1)<|ξ (vv f61r11.eq_1)<|ξ (uu f61b12.eq_1)<|ξ (vv f61r1.eq_1)<|uu f61b2.eq_1)
theorem Ψ61:type_of% Υ61.1:=Υ61.1
def f77r1:LA:=[θ 27 5,θ 2 27,η (.mov 3 (φ 0))]
def f77b2:AQ:=ζ f77r1 .ret
def f77r3:LA:=[η (.bin 26 .add (.t 16) (φ 1)),θ 16 26]
def f77r4:LA:=[η (.mov 2 (φ 0)),η (.mov 3 (φ 6))]
def f77b5:AQ:=ζ f77r4 .ret
def f77b6:AQ:=.cond (.t 25) f77b5 .skip
def f77r7:LA:=[θ 24 5,η (.bin 25 .gtr (.t 24) (φ 4096))]
def f77b8:AQ:=ζ f77r7 f77b6
def f77r9:LA:=[θ 20 5,ω 21 2 7,Θ 22 61 21,vX 23 .mul 20 22,θ 5 23]
def f77b10:AQ:=ζ f77r9 f77b8
def f77r11:LA:=[Ψ 18 2 14 16,ω 19 2 18,η (.alloc 7 107 [(.str []),(.list 0 (some true) [])]),Φ 2 7 19]
def f77b12:AQ:=ζ f77r11 (.frz 7 f77b10)
def f77b13:AQ:=.block 1 f77b12
def f77b14:AQ:=.seq f77b13 (.region f77r3)
def f77b15:AQ:=.cond (.t 17) .skip (.exit 0)
def f77b16:AQ:=.seq f77b15 f77b14
def f77r17:LA:=[vX 17 .lss 16 15]
def f77b18:AQ:=ζ f77r17 f77b16
def f77l19:AQ:=.loop [5,14,15,16] [] f77b18
def f77b20:AQ:=.block 0 f77l19
def f77r21:LA:=[Γ 13 1 1,ψ 14 1 13,Ω 15 14,η (.mov 16 (φ 0))]
def f77b22:AQ:=ζ f77r21 f77b20
def f77b23:AQ:=.seq f77b22 f77b2
def f77r24:LA:=[η (.mov 5 (φ 1))]
def f77b25:AQ:=ζ f77r24 f77b23
def f77r26:LA:=[θ 12 4,η (.mov 2 (φ 0)),θ 3 12]
def f77b27:AQ:=ζ f77r26 .ret
def f77b28:AQ:=.cond (.t 11) f77b27 .skip
def f77r29:LA:=[θ 10 4,η (.bin 11 .neq (.t 10) (φ 0))]
def f77b30:AQ:=ζ f77r29 f77b28
def f77r31:LA:=[ω 8 2 1,Θ 9 55 8,θ 4 9]
def f77b32:AQ:=ζ f77r31 f77b30
def f77b33:AQ:=.seq f77b32 f77b25
def f77r34:LA:=[xB 1 58 0,η (.mov 2 (φ 0)),η (.mov 3 (φ 0))]
def f77b35:AQ:=ζ f77r34 (.frz 1 f77b33)
def f77:AQ:=f77b35
theorem hf77:zH Tryz.prog 77=some ⟨28,f77.erase,[(RX.t 2),(RX.t 3)]⟩:=by kernel_rfl
theorem okf77:f77.ok=true:=by kernel_rfl
def Υ77:=PLift.up (ξ (uu f77.eq_1)<|ξ (vv f77r31.eq_1)<|ξ (uu f77b32.eq_1)<|ξ (uu f77b33.eq_1)<|ξ (vv f77r34.eq_1)<|ξ (uu f77b35.eq_1)<|ξ (uu f77b20.eq_1)<|ξ (vv f77r21.eq_1)<|ξ (uu f77b22.eq_1)<|ξ (uu f77b23.eq_1)<|ξ (vv f77r24.eq_1)<|ξ (uu f77b25.eq_1)<|ξ (uu f77b28.eq_1)<|ξ (vv f77r29.eq_1)<|ξ (uu f77b30.eq_1)<|ξ (vv f77r3.eq_1)<|ξ (vv f77r9.eq_1)<|ξ (uu f77b10.eq_1)<|ξ (vv f77r11.eq_1)<|ξ (uu f77b12.eq_1)<|ξ (uu f77b13.eq_1)<|ξ (uu f77b14.eq_1)<|ξ (uu f77b15.eq_1)<|ξ (uu f77b16.eq_1)<|ξ (vv f77r17.eq_1)<|ξ (uu f77b18.eq_1)<|ξ (vv f77r4.eq_1)<|ξ (uu f77b5.eq_1)<|ξ (uu f77b6.eq_1)<|ξ (vv f77r7.eq_1)<|ξ (uu f77b8.eq_1)<|ξ (vv f77r1.eq_1)<|ξ (uu f77b2.eq_1)<|ξ (vv f77r26.eq_1)<|uu f77b27.eq_1)
theorem Ψ77:type_of% Υ77.1:=Υ77.1
def f58r1:LA:=[θ 3 0,Θ 4 59 3,η (.un 5 .not (.t 4)),θ 2 5]
def f58b2:AQ:=ζ f58r1 .ret
def f58r3:LA:=[η (.mov 2 (χ false))]
def f58b4:AQ:=ζ f58r3 f58b2
def f58:AQ:=f58b4
theorem hf58:zH Tryz.prog 58=some ⟨6,f58.erase,[(RX.t 2)]⟩:=by kernel_rfl
theorem okf58:f58.ok=true:=by kernel_rfl
def Υ58:=PLift.up (ξ (uu f58.eq_1)<|ξ (vv f58r1.eq_1)<|ξ (uu f58b2.eq_1)<|ξ (vv f58r3.eq_1)<|uu f58b4.eq_1)
theorem Ψ58:type_of% Υ58.1:=Υ58.1
def f54r1:LA:=[θ 5 0,η (.call (some 6) 91 [(.t 5),(.v (.k (.c (.str [32]))))]),θ 2 6]
def f54b2:AQ:=ζ f54r1 .ret
def f54r3:LA:=[η (.nilL 2 9 1)]
def f54b4:AQ:=ζ f54r3 .ret
def f54b5:AQ:=.cond (.t 4) f54b4 .skip
def f54r6:LA:=[θ 3 0,η (.bin 4 .eql (.t 3) (.v (.k (.c (.str [])))))]
def f54b7:AQ:=ζ f54r6 f54b5
def f54b8:AQ:=.seq f54b7 f54b2
def f54r9:LA:=[η (.nilL 2 9 1)]
def f54b10:AQ:=ζ f54r9 f54b8
def f54:AQ:=f54b10
theorem hf54:zH Tryz.prog 54=some ⟨7,f54.erase,[(RX.t 2)]⟩:=by kernel_rfl
theorem okf54:f54.ok=true:=by kernel_rfl
def Υ54:=PLift.up (ξ (uu f54.eq_1)<|ξ (vv f54r3.eq_1)<|ξ (uu f54b4.eq_1)<|ξ (uu f54b5.eq_1)<|ξ (vv f54r6.eq_1)<|ξ (uu f54b7.eq_1)<|ξ (uu f54b8.eq_1)<|ξ (vv f54r9.eq_1)<|ξ (uu f54b10.eq_1)<|ξ (vv f54r1.eq_1)<|uu f54b2.eq_1)
theorem Ψ54:type_of% Υ54.1:=Υ54.1
def f26r1:LA:=[ω 101 2 10,Φ 2 6 101,η (.mov 7 (φ 0))]
def f26b2:AQ:=ζ f26r1 .ret
def f26r3:LA:=[η (.bin 100 .add (.t 48) (φ 1)),θ 48 100]
def f26r4:LA:=[Γ 94 1 10,ψ 95 1 94,ω 96 2 13,η (.bslice 97 107 2 [(.str []),(.list 0 (some true) [])] 1 [(0,(.t 96))]),η (.append 98 107 2 40 (.t 95) (.t 97)),Γ 99 1 10,Φ 1 99 98]
def f26r5:LA:=[η (.bin 93 .add (.t 78) (φ 1)),θ 78 93]
def f26r6:LA:=[Γ 85 1 13,ψ 86 1 85,θ 87 17,η (.bslice 88 9 1 [(.str [])] 1 [(0,(.t 87))])]
def f26r7:LA:=[η (.build 89 [(.list 0 (some true) [])] [(0,(1,(.t 88)))]),η (.bslice 90 109 1 [(.list 0 (some true) [])] 1 [(0,(.t 89))]),η (.append 91 109 1 24 (.t 86) (.t 90)),Γ 92 1 13,Φ 1 92 91]
def f26b8:AQ:=.cond (.t 84) (.regf f26r6 [88] f26r7) .skip
def f26r9:LA:=[θ 82 11,θ 83 1,vX 84 .eql 82 83]
def f26b10:AQ:=ζ f26r9 f26b8
def f26r11:LA:=[Ψ 80 1 76 78,ψ 81 1 80,θ 17 81]
def f26b12:AQ:=ζ f26r11 f26b10
def f26b13:AQ:=.block 6 f26b12
def f26b14:AQ:=.seq f26b13 (.region f26r5)
def f26b15:AQ:=.cond (.t 79) .skip (.exit 5)
def f26b16:AQ:=.seq f26b15 f26b14
def f26r17:LA:=[vX 79 .lss 78 77]
def f26b18:AQ:=ζ f26r17 f26b16
def f26l19:AQ:=.loop [1,6,8,10,11,13,46,47,48,76,77,78] [6,10,13,73,91,98,26010,26013] f26b18
def f26b20:AQ:=.block 5 f26l19
def f26r21:LA:=[θ 76 8,Ω 77 76,η (.mov 78 (φ 0))]
def f26b22:AQ:=ζ f26r21 f26b20
def f26b23:AQ:=.seq f26b22 (.frz 26013 (.region f26r4))
def f26r24:LA:=[η (.bin 75 .add (.t 59) (φ 1)),θ 59 75]
def f26r25:LA:=[Γ 66 1 13,ψ 67 1 66,Γ 68 0 15,ψ 69 1 68,Θ 70 60 69,η (.build 71 [(.list 0 (some true) [])] [(0,(1,(.t 70)))]),η (.bslice 72 109 1 [(.list 0 (some true) [])] 1 [(0,(.t 71))]),η (.append 73 109 1 24 (.t 67) (.t 72)),Γ 74 1 13,Φ 1 74 73]
def f26b26:AQ:=.cond (.t 65) (.draw f26r25 [[],[0],[],[2],[3],[4],[5],[1,6,4],[0,1,2,3,4,5,6,7],[8,7,7,0,1,2,3,4,5,6,7]]) .skip
def f26r27:LA:=[θ 63 11,θ 64 1,vX 65 .neq 63 64]
def f26b28:AQ:=ζ f26r27 f26b26
def f26r29:LA:=[Ψ 61 1 57 59,ω 62 1 61,η (.alloc 15 109 [(.list 0 (some true) [])]),Φ 1 15 62]
def f26b30:AQ:=ζ f26r29 (.frz 15 f26b28)
def f26b31:AQ:=.block 4 f26b30
def f26b32:AQ:=.seq f26b31 (.region f26r24)
def f26b33:AQ:=.cond (.t 60) .skip (.exit 3)
def f26b34:AQ:=.seq f26b33 f26b32
def f26r35:LA:=[vX 60 .lss 59 58]
def f26b36:AQ:=ζ f26r35 f26b34
def f26l37:AQ:=.loop [1,6,8,10,11,13,46,47,48,57,58,59] [6,10,13,73,91,98,26010,26013] f26b36
def f26b38:AQ:=.block 3 f26l37
def f26r39:LA:=[Γ 56 1 12,ψ 57 1 56,Ω 58 57,η (.mov 59 (φ 0))]
def f26b40:AQ:=ζ f26r39 f26b38
def f26b41:AQ:=.seq f26b40 f26b23
def f26r42:LA:=[Γ 53 0 12,ψ 54 1 53,η (.build 55 [(.str []),(.list 0 (some true) [])] [(0,(1,(.t 54)))]),η (.alloc 13 107 [(.str []),(.list 0 (some true) [])]),Φ 2 13 55]
def f26b43:AQ:=ζ f26r42 (.own 13 26013 109 1 f26b41)
def f26r44:LA:=[θ 50 48,Ψ 51 2 46 48,ω 52 2 51,η (.alloc 12 107 [(.str []),(.list 0 (some true) [])]),θ 11 50,Φ 2 12 52]
def f26b45:AQ:=ζ f26r44 (.frz 12 f26b43)
def f26b46:AQ:=.block 2 f26b45
def f26b47:AQ:=.seq f26b46 (.region f26r3)
def f26b48:AQ:=.cond (.t 49) .skip (.exit 1)
def f26b49:AQ:=.seq f26b48 f26b47
def f26r50:LA:=[vX 49 .lss 48 47]
def f26b51:AQ:=ζ f26r50 f26b49
def f26l52:AQ:=.loop [1,6,8,10,46,47,48] [6,10,98,26010] f26b51
def f26b53:AQ:=.block 1 f26l52
def f26r54:LA:=[Γ 45 1 3,ψ 46 1 45,Ω 47 46,η (.mov 48 (φ 0))]
def f26b55:AQ:=ζ f26r54 f26b53
def f26b56:AQ:=.seq f26b55 f26b2
def f26r57:LA:=[Γ 42 0 3,ψ 43 1 42,η (.build 44 [(.str []),(.list 0 (some true) [])] [(0,(1,(.t 43)))]),η (.alloc 10 58 [(.str []),(.list 0 (some true) [])]),Φ 2 10 44]
def f26b58:AQ:=ζ f26r57 (.own 10 26010 107 2 f26b56)
def f26r59:LA:=[η (.build 25 [(.str []),(.list 0 (some true) [])] []),θ 26 9,Φ 2 6 25,θ 7 26]
def f26b60:AQ:=ζ f26r59 .ret
def f26r61:LA:=[η (.build 32 [(.str []),(.list 0 (some true) [])] []),Φ 2 6 32,η (.mov 7 (φ 4))]
def f26b62:AQ:=ζ f26r61 .ret
def f26r63:LA:=[η (.build 41 [(.str []),(.list 0 (some true) [])] []),Φ 2 6 41,η (.mov 7 (φ 2))]
def f26b64:AQ:=ζ f26r63 .ret
def f26b65:AQ:=.cond (.t 33) f26b64 .skip
def f26r66:LA:=[θ 34 8,Ω 35 34,η (.bin 36 .gtr (.t 35) (φ 8)),θ 37 36,zAA 37 (.mov 38 (.t 8)),zAA 37 (.call (some 39) 57 [(.t 38),(.v (.k (.c (.fn 58 []))))]),η (.pick 40 (.t 37) (χ true) (.t 39)),θ 33 40]
def f26b67:AQ:=ζ f26r66 f26b65
def f26b68:AQ:=.cond (.t 27) f26b62 f26b67
def f26r69:LA:=[ω 28 2 3,θ 29 1,Ξ 30 56 28 29,η (.un 31 .not (.t 30)),θ 27 31]
def f26b70:AQ:=ζ f26r69 f26b68
def f26b71:AQ:=.cond (.t 22) f26b60 f26b70
def f26r72:LA:=[θ 23 9,η (.bin 24 .neq (.t 23) (φ 0)),θ 22 24]
def f26b73:AQ:=ζ f26r72 f26b71
def f26b74:AQ:=.block 0 f26b73
def f26r75:LA:=[ω 20 2 3,Θ 21 55 20,θ 9 21]
def f26b76:AQ:=ζ f26r75 f26b74
def f26b77:AQ:=.seq f26b76 f26b58
def f26r78:LA:=[θ 18 2,Θ 19 54 18,θ 8 19]
def f26b79:AQ:=ζ f26r78 f26b77
def f26r80:LA:=[xB 3 58 0,η (.alloc 6 58 [(.str []),(.list 0 (some true) [])]),η (.mov 7 (φ 0))]
def f26b81:AQ:=ζ f26r80 (.frz 3 f26b79)
def f26:AQ:=f26b81
theorem hf26:zH Tryz.prog 26=some ⟨102,f26.erase,[(RX.cell 6 2 true),(RX.t 7)]⟩:=by kernel_rfl
theorem okf26:f26.ok=true:=by kernel_rfl
def Υ26:=PLift.up (ξ (uu f26.eq_1)<|ξ (vv f26r78.eq_1)<|ξ (uu f26b79.eq_1)<|ξ (vv f26r80.eq_1)<|ξ (uu f26b81.eq_1)<|ξ (vv f26r75.eq_1)<|ξ (uu f26b76.eq_1)<|ξ (uu f26b77.eq_1)<|ξ (vv f26r69.eq_1)<|ξ (uu f26b70.eq_1)<|ξ (uu f26b71.eq_1)<|ξ (vv f26r72.eq_1)<|ξ (uu f26b73.eq_1)<|ξ (uu f26b74.eq_1)<|ξ (vv f26r66.eq_1)<|ξ (uu f26b67.eq_1)<|ξ (uu f26b68.eq_1)<|ξ (vv f26r63.eq_1)<|ξ (uu f26b64.eq_1)<|ξ (uu f26b65.eq_1)<|ξ (uu f26b53.eq_1)<|ξ (vv f26r54.eq_1)<|ξ (uu f26b55.eq_1)<|ξ (uu f26b56.eq_1)<|ξ (vv f26r57.eq_1)<|ξ (uu f26b58.eq_1)<|ξ (vv f26r3.eq_1)<|ξ (uu f26b38.eq_1)<|ξ (vv f26r39.eq_1)<|ξ (uu f26b40.eq_1)<|ξ (uu f26b41.eq_1)<|ξ (vv f26r42.eq_1)<|ξ (uu f26b43.eq_1)<|ξ (vv f26r44.eq_1)<|ξ (uu f26b45.eq_1)<|ξ (uu f26b46.eq_1)<|ξ (uu f26b47.eq_1)<|ξ (uu f26b48.eq_1)<|ξ (uu f26b49.eq_1)<|ξ (vv f26r50.eq_1)<|ξ (uu f26b51.eq_1)<|ξ (vv f26r24.eq_1)<|ξ (vv f26r25.eq_1)<|ξ (uu f26b26.eq_1)<|ξ (vv f26r27.eq_1)<|ξ (uu f26b28.eq_1)<|ξ (vv f26r29.eq_1)<|ξ (uu f26b30.eq_1)<|ξ (uu f26b31.eq_1)<|ξ (uu f26b32.eq_1)<|ξ (uu f26b33.eq_1)<|ξ (uu f26b34.eq_1)<|ξ (vv f26r35.eq_1)<|ξ (uu f26b36.eq_1)<|ξ (vv f26r4.eq_1)<|ξ (uu f26b20.eq_1)<|ξ (vv f26r21.eq_1)<|ξ (uu f26b22.eq_1)<|ξ (uu f26b23.eq_1)<|ξ (vv f26r5.eq_1)<|ξ (vv f26r6.eq_1)<|ξ (vv f26r7.eq_1)<|ξ (uu f26b8.eq_1)<|ξ (vv f26r9.eq_1)<|ξ (uu f26b10.eq_1)<|ξ (vv f26r11.eq_1)<|ξ (uu f26b12.eq_1)<|ξ (uu f26b13.eq_1)<|ξ (uu f26b14.eq_1)<|ξ (uu f26b15.eq_1)<|ξ (uu f26b16.eq_1)<|ξ (vv f26r17.eq_1)<|ξ (uu f26b18.eq_1)<|ξ (vv f26r1.eq_1)<|ξ (uu f26b2.eq_1)<|ξ (vv f26r61.eq_1)<|ξ (uu f26b62.eq_1)<|ξ (vv f26r59.eq_1)<|uu f26b60.eq_1)
theorem Ψ26:type_of% Υ26.1:=Υ26.1
def f6r1:LA:=[θ 174 7,θ 6 174]
def f6b2:AQ:=ζ f6r1 .ret
def f6r3:LA:=[θ 143 22,η (.bin 144 .add (.t 143) (φ 1)),θ 22 144]
def f6r4:LA:=[η (.mov 6 (χ false))]
def f6b5:AQ:=ζ f6r4 .ret
def f6b6:AQ:=.cond (.t 173) f6b5 .skip
def f6r7:LA:=[θ 145 17,θ 146 22,Ψ 147 3 145 146,Γ 148 2 147,ψ 149 1 148,η (.un 150 .not (.t 149)),θ 151 150,zAA 151 (.mov 152 (.t 17)),zAA 151 (.mov 153 (.t 22)),zAA 151 (.iaddr 154 3 (.t 152) (.t 153)),zAA 151 (.faddr 155 0 (.t 154)),zAA 151 (.load 156 1 false (.t 155)),zAA 151 (.len 157 (.t 156)),zAA 151 (.bin 158 .neq (.t 157) (φ 1)),η (.pick 159 (.t 151) (χ true) (.t 158)),θ 160 159,zAA 160 (.mov 161 (.t 17)),zAA 160 (.mov 162 (.t 22)),zAA 160 (.iaddr 163 3 (.t 161) (.t 162)),zAA 160 (.faddr 164 0 (.t 163)),zAA 160 (.load 165 1 false (.t 164)),zAA 160 (.iaddr 166 1 (.t 165) (φ 0)),zAA 160 (.load 167 1 false (.t 166)),zAA 160 (.mov 168 (.t 21)),zAA 160 (.mov 169 (.t 22)),zAA 160 (.iaddr 170 1 (.t 168) (.t 169)),zAA 160 (.load 171 1 false (.t 170)),zAA 160 (.bin 172 .neq (.t 167) (.t 171)),η (.pick 173 (.t 160) (χ true) (.t 172))]
def f6b8:AQ:=.seq (.draw f6r7 [[],[],[0,1],[2],[3],[4],[5],[6],[6],[7,8,6],[9,6],[10,6],[11,6],[12,6],[6,13],[14,6],[15],[15],[16,17,15],[18,15],[19,15],[20,15],[21,15],[15],[15],[23,24,15],[25,15],[22,26,15],[15,27]]) f6b6
def f6b9:AQ:=.block 5 f6b8
def f6b10:AQ:=.seq f6b9 (.region f6r3)
def f6b11:AQ:=.cond (.t 142) .skip (.exit 4)
def f6r12:LA:=[θ 139 22,θ 140 17,Ω 141 140,vX 142 .lss 139 141]
def f6b13:AQ:=ζ f6r12 f6b11
def f6b14:AQ:=.seq f6b13 f6b10
def f6l15:AQ:=.loop [7,17,21,22] [54,66,68,111,121,55000,55001,55002,112000,112001,112002,122000,122001,122002] f6b14
def f6b16:AQ:=.block 4 f6l15
def f6r17:LA:=[η (.mov 22 (φ 0))]
def f6b18:AQ:=ζ f6r17 f6b16
def f6b19:AQ:=.seq f6b18 f6b2
def f6r20:LA:=[η (.mov 6 (χ false))]
def f6b21:AQ:=ζ f6r20 .ret
def f6b22:AQ:=.cond (.t 138) f6b21 .skip
def f6r23:LA:=[θ 122 18,η (.bin 123 .neq (.t 122) (φ 0)),θ 124 123,zAA 124 (.mov 125 (.t 20)),zAA 124 (.bin 126 .neq (.t 125) (φ 0)),η (.pick 127 (.t 124) (χ true) (.t 126)),θ 128 127,zAA 128 (.mov 129 (.t 19)),zAA 128 (.bin 130 .neq (.t 129) (φ 1)),η (.pick 131 (.t 128) (χ true) (.t 130)),θ 132 131,zAA 132 (.mov 133 (.t 17)),zAA 132 (.len 134 (.t 133)),zAA 132 (.mov 135 (.t 21)),zAA 132 (.len 136 (.t 135)),zAA 132 (.bin 137 .neq (.t 134) (.t 136)),η (.pick 138 (.t 132) (χ true) (.t 137))]
def f6b24:AQ:=ζ f6r23 f6b22
def f6b25:AQ:=.seq f6b24 f6b19
def f6r26:LA:=[θ 119 0,θ 120 10,Ξ 121 15 119 120,θ 21 121]
def f6b27:AQ:=ζ f6r26 f6b25
def f6r28:LA:=[θ 115 12,Θ 116 13 115,θ 114 116,Δ 117 114 0,Δ 118 114 1,θ 19 117,θ 20 118]
def f6b29:AQ:=ζ f6r28 f6b27
def f6r30:LA:=[θ 109 0,θ 110 12,Ξ 111 10 109 110,θ 108 111,Δ 112 108 0,Δ 113 108 1,θ 17 112,θ 18 113]
def f6b31:AQ:=ζ f6r30 f6b29
def f6r32:LA:=[θ 73 13,η (.bin 74 .add (.t 73) (φ 1)),θ 13 74]
def f6r33:LA:=[θ 83 14,η (.bin 84 .add (.t 83) (φ 1)),θ 14 84]
def f6r34:LA:=[θ 104 12,θ 105 13,ω 106 2 15,Ψ 107 2 104 105,Φ 2 107 106]
def f6r35:LA:=[η (.mov 6 (χ false))]
def f6b36:AQ:=ζ f6r35 .ret
def f6b37:AQ:=.cond (.t 103) f6b36 .skip
def f6r38:LA:=[θ 102 16,η (.bin 103 .neq (.t 102) (φ 0))]
def f6b39:AQ:=ζ f6r38 f6b37
def f6b40:AQ:=.seq f6b39 (.region f6r34)
def f6r41o0:AI:=.mk none (.mov 86 (.t 12))
def f6r41o1:AI:=.mk none (.mov 87 (.t 13))
def f6r41o2:AI:=.mk none (.iaddr 88 2 (.t 86) (.t 87))
def f6r41o3:AI:=.mk none (.load 89 2 true (.t 88))
def f6r41o4:AI:=.mk none (.mov 90 (.t 14))
def f6r41o5:AI:=.mk none (.mov 91 (.t 10))
def f6r41o6:AI:=.mk none (.mov 92 (.t 13))
def f6r41o7:AI:=.mk none (.iaddr 93 3 (.t 91) (.t 92))
def f6r41o8:AI:=.mk none (.faddr 94 2 (.t 93))
def f6r41o9:AI:=.mk none (.load 95 1 false (.t 94))
def f6r41o10:AI:=.mk none (.mov 96 (.t 14))
def f6r41o11:AI:=.mk none (.iaddr 97 1 (.t 95) (.t 96))
def f6r41o12:AI:=.mk none (.load 98 1 false (.t 97))
def f6r41o13:AI:=.mk none (.call (some 99) 26 [(.t 89),(.t 90),(.t 98)])
def f6r41o14:AI:=.mk none (.mov 85 (.t 99))
def f6r41o15:AI:=.mk none (.extr 100 (.t 85) 0)
def f6r41o16:AI:=.mk none (.extr 101 (.t 85) 1)
def f6r41o17:AI:=.mk none (.alloc 15 58 [(.str []),(.list 0 (some true) [])])
def f6r41o18:AI:=.mk none (.store 2 (.t 15) (.t 100))
def f6r41o19:AI:=.mk none (.mov 16 (.t 101))
def f6r41:LA:=[f6r41o0,f6r41o1,f6r41o2,f6r41o3,f6r41o4,f6r41o5,f6r41o6,f6r41o7,f6r41o8,f6r41o9,f6r41o10,f6r41o11,f6r41o12,f6r41o13,f6r41o14,f6r41o15,f6r41o16,f6r41o17,f6r41o18,f6r41o19]
def f6b42:AQ:=.seq (.tree f6r41 [[],[],[0,1],[2],[],[],[],[5,6],[7],[8],[],[9,10],[11],[3,4,12],[13],[14],[14],[],[17,15,13,0,1,2,3,4,5,6,7,8,9,10,11,12,13,14,15,17],[16,18,0,1,2,3,4,5,6,7,8,9,10,11,12,13,14,15,16,17,18]]) (.keep [0,7,10,12,13,14,15,16] [15,54,66,68,55000,55001,55002] f6b40)
def f6b43:AQ:=.block 3 f6b42
def f6b44:AQ:=.seq f6b43 (.region f6r33)
def f6b45:AQ:=.cond (.t 82) .skip (.exit 2)
def f6r46:LA:=[θ 75 14,θ 76 10,θ 77 13,Ψ 78 3 76 77,Γ 79 2 78,ψ 80 1 79,Ω 81 80,vX 82 .lss 75 81]
def f6b47:AQ:=ζ f6r46 f6b45
def f6b48:AQ:=.seq f6b47 f6b44
def f6l49:AQ:=.loop [0,7,10,12,13,14] [54,66,68,55000,55001,55002] f6b48
def f6b50:AQ:=.block 2 f6l49
def f6r51:LA:=[η (.mov 14 (φ 0))]
def f6b52:AQ:=ζ f6r51 f6b50
def f6b53:AQ:=.block 1 f6b52
def f6b54:AQ:=.seq f6b53 (.region f6r32)
def f6b55:AQ:=.cond (.t 72) .skip (.exit 0)
def f6r56:LA:=[θ 69 13,θ 70 12,Ω 71 70,vX 72 .lss 69 71]
def f6b57:AQ:=ζ f6r56 f6b55
def f6b58:AQ:=.seq f6b57 f6b54
def f6l59:AQ:=.loop [0,7,10,12,13] [54,66,68,55000,55001,55002] f6b58
def f6b60:AQ:=.block 0 f6l59
def f6r61:LA:=[η (.mov 13 (φ 0))]
def f6b62:AQ:=ζ f6r61 f6b60
def f6b63:AQ:=.seq f6b62 (.frz 66 f6b31)
def f6r64:LA:=[η (.bslice 66 58 2 [(.str []),(.list 0 (some true) [])] 0 []),θ 67 1,η (.append 68 58 2 40 (.t 66) (.t 67)),θ 12 68]
def f6b65:AQ:=ζ f6r64 f6b63
def f6r66:LA:=[η (.mov 6 (χ false))]
def f6b67:AQ:=ζ f6r66 .ret
def f6b68:AQ:=.cond (.t 65) f6b67 .skip
def f6r69:LA:=[θ 57 11,η (.bin 58 .neq (.t 57) (φ 0)),θ 59 58,zAA 59 (.mov 60 (.t 10)),zAA 59 (.len 61 (.t 60)),zAA 59 (.mov 62 (.t 1)),zAA 59 (.len 63 (.t 62)),zAA 59 (.bin 64 .neq (.t 61) (.t 63)),η (.pick 65 (.t 59) (χ true) (.t 64))]
def f6b70:AQ:=ζ f6r69 f6b68
def f6b71:AQ:=.seq f6b70 f6b65
def f6r72:LA:=[θ 49 1,θ 50 2,η (.conv 51 .i64 (.t 50)),θ 52 8,vX 53 .rem 51 52,Ξ 54 14 49 53,θ 48 54,Δ 55 48 0,Δ 56 48 1,θ 10 55,θ 11 56]
def f6b73:AQ:=ζ f6r72 f6b71
def f6r74:LA:=[θ 47 7,θ 6 47]
def f6b75:AQ:=ζ f6r74 .ret
def f6b76:AQ:=.cond (.t 46) f6b75 .skip
def f6r77:LA:=[θ 29 0,θ 30 1,Ξ 31 9 29 30,η (.un 32 .not (.t 31)),θ 33 32,zAA 33 (.mov 34 (.t 9)),zAA 33 (.bin 35 .neq (.t 34) (φ 0)),η (.pick 36 (.t 33) (χ true) (.t 35)),θ 37 36,zAA 37 (.mov 38 (.t 0)),zAA 37 (.mov 39 (.t 1)),zAA 37 (.call (some 40) 20 [(.t 38),(.t 39)]),zAA 37 (.bin 41 .neq (.t 40) (φ 0)),η (.pick 42 (.t 37) (χ true) (.t 41)),θ 43 42,zAA 43 (.mov 44 (.t 8)),zAA 43 (.bin 45 .lss (.t 44) (φ 1)),η (.pick 46 (.t 43) (χ true) (.t 45))]
def f6b78:AQ:=ζ f6r77 f6b76
def f6b79:AQ:=.seq f6b78 f6b73
def f6r80:LA:=[θ 25 1,Θ 26 13 25,θ 24 26,Δ 27 24 0,Δ 28 24 1,θ 8 27,θ 9 28]
def f6b81:AQ:=ζ f6r80 f6b79
def f6r82:LA:=[η (.call (some 23) 8 []),θ 7 23]
def f6b83:AQ:=ζ f6r82 f6b81
def f6r84:LA:=[η (.mov 6 (χ false))]
def f6b85:AQ:=ζ f6r84 f6b83
def f6:AQ:=f6b85
def f7r1:LA:=[θ 308 13,θ 309 308,kI 309 (.mov 310 (.t 35)),kI 309 (.mov 311 (.t 33)),kI 309 (.call (some 312) 28 [(.t 310),(.t 311)]),η (.pick 313 (.t 309) (.t 312) (χ false)),θ 12 313]
def f7b2:AQ:=ζ f7r1 .ret
def f7r3:LA:=[θ 272 36,η (.bin 273 .add (.t 272) (φ 1)),θ 36 273]
def f7r4:LA:=[θ 301 35,θ 302 19,θ 303 36,Ψ 304 3 302 303,ω 305 3 304,η (.bslice 306 33 3 [(.list 0 (some true) []),(.list 0 (some true) []),(.bool false)] 1 [(0,(.t 305))]),η (.append 307 33 3 56 (.t 301) (.t 306)),θ 35 307]
def f7b5:AQ:=.cond (.t 300) (.region f7r4) .skip
def f7r6:LA:=[θ 299 37,η (.un 300 .not (.t 299))]
def f7b7:AQ:=ζ f7r6 f7b5
def f7r8:LA:=[θ 282 38,η (.bin 283 .add (.t 282) (φ 1)),θ 38 283]
def f7r9:LA:=[θ 284 37,θ 285 284,zAA 285 (.mov 286 (.t 19)),zAA 285 (.mov 287 (.t 36)),zAA 285 (.iaddr 288 3 (.t 286) (.t 287)),zAA 285 (.faddr 289 1 (.t 288)),zAA 285 (.load 290 1 false (.t 289)),zAA 285 (.mov 291 (.t 38)),zAA 285 (.iaddr 292 2 (.t 290) (.t 291)),zAA 285 (.load 293 2 true (.t 292)),zAA 285 (.mov 294 (.t 14)),zAA 285 (.mov 295 (.t 15)),zAA 285 (.build 296 [(.int .i64 0),(.int .i64 0)] [(0,(1,(.t 294))),(1,(1,(.t 295)))]),zAA 285 (.eqAgg 297 false [.int,.int] (.t 293) (.t 296)),η (.pick 298 (.t 285) (χ true) (.t 297)),θ 37 298]
def f7b10:AQ:=.block 7 (.region f7r9)
def f7b11:AQ:=.seq f7b10 (.region f7r8)
def f7b12:AQ:=.cond (.t 281) .skip (.exit 6)
def f7r13:LA:=[θ 274 38,θ 275 19,θ 276 36,Ψ 277 3 275 276,Γ 278 1 277,ψ 279 1 278,Ω 280 279,vX 281 .lss 274 280]
def f7b14:AQ:=ζ f7r13 f7b12
def f7b15:AQ:=.seq f7b14 f7b11
def f7l16:AQ:=.loop [13,14,15,19,33,35,36,37,38] [120,237,239,257,267,307,121000,121001,121002,258000,258001,258002] f7b15
def f7b17:AQ:=.block 6 f7l16
def f7r18:LA:=[η (.mov 38 (φ 0))]
def f7b19:AQ:=ζ f7r18 f7b17
def f7b20:AQ:=.seq f7b19 f7b7
def f7r21:LA:=[η (.mov 37 (χ false))]
def f7b22:AQ:=ζ f7r21 f7b20
def f7b23:AQ:=.block 5 f7b22
def f7b24:AQ:=.seq f7b23 (.region f7r3)
def f7b25:AQ:=.cond (.t 271) .skip (.exit 4)
def f7r26:LA:=[θ 268 36,θ 269 19,Ω 270 269,vX 271 .lss 268 270]
def f7b27:AQ:=ζ f7r26 f7b25
def f7b28:AQ:=.seq f7b27 f7b24
def f7l29:AQ:=.loop [13,14,15,19,33,35,36] [120,237,239,257,267,307,121000,121001,121002,258000,258001,258002] f7b28
def f7b30:AQ:=.block 4 f7l29
def f7r31:LA:=[η (.mov 36 (φ 0))]
def f7b32:AQ:=ζ f7r31 f7b30
def f7b33:AQ:=.seq f7b32 (.frz 267 f7b2)
def f7r34:LA:=[η (.bslice 267 33 3 [(.list 0 (some true) []),(.list 0 (some true) []),(.bool false)] 0 []),θ 35 267]
def f7b35:AQ:=ζ f7r34 f7b33
def f7r36:LA:=[θ 266 13,θ 12 266]
def f7b37:AQ:=ζ f7r36 .ret
def f7b38:AQ:=.cond (.t 265) f7b37 .skip
def f7r39:LA:=[θ 260 32,η (.bin 261 .neq (.t 260) (φ 0)),θ 262 261,zAA 262 (.mov 263 (.t 34)),zAA 262 (.bin 264 .neq (.t 263) (φ 0)),η (.pick 265 (.t 262) (χ true) (.t 264))]
def f7b40:AQ:=ζ f7r39 f7b38
def f7b41:AQ:=.seq f7b40 f7b35
def f7r42:LA:=[θ 255 0,θ 256 30,Ξ 257 10 255 256,θ 254 257,Δ 258 254 0,Δ 259 254 1,θ 33 258,θ 34 259]
def f7b43:AQ:=.frz 237 (ζ f7r42 f7b41)
def f7r44:LA:=[θ 250 30,θ 251 14,ω 252 2 31,Ψ 253 2 250 251,Φ 2 253 252]
def f7b45:AQ:=ζ f7r44 f7b43
def f7r46:LA:=[θ 241 1,θ 242 14,Ψ 243 2 241 242,ω 244 2 243,θ 245 15,θ 246 5,η (.call (some 247) 26 [(.t 244),(.t 245),(.t 246)]),θ 240 247,Δ 248 240 0,Δ 249 240 1,η (.alloc 31 58 [(.str []),(.list 0 (some true) [])]),Φ 2 31 248,θ 32 249]
def f7b47:AQ:=ζ f7r46 (.frz 31 f7b45)
def f7r48:LA:=[η (.bslice 237 58 2 [(.str []),(.list 0 (some true) [])] 0 []),θ 238 1,η (.append 239 58 2 40 (.t 237) (.t 238)),θ 30 239]
def f7b49:AQ:=ζ f7r48 f7b47
def f7r50:LA:=[θ 178 27,η (.bin 179 .add (.t 178) (φ 1)),θ 27 179]
def f7r51:LA:=[η (.mov 12 (χ false))]
def f7b52:AQ:=ζ f7r51 .ret
def f7b53:AQ:=.cond (.t 236) f7b52 .skip
def f7r54:LA:=[θ 235 28,η (.un 236 .not (.t 235))]
def f7b55:AQ:=ζ f7r54 f7b53
def f7r56:LA:=[θ 189 29,η (.bin 190 .add (.t 189) (φ 1)),θ 29 190]
def f7r57:LA:=[θ 191 28,θ 192 191,zAA 192 (.mov 193 (.t 19)),zAA 192 (.mov 194 (.t 29)),zAA 192 (.iaddr 195 3 (.t 193) (.t 194)),zAA 192 (.faddr 196 2 (.t 195)),zAA 192 (.load 197 1 false (.t 196)),zAA 192 (.un 198 .not (.t 197)),zAA 192 (.mov 199 (.t 198)),kI 199 (.mov 200 (.t 19)),kI 199 (.mov 201 (.t 29)),kI 199 (.iaddr 202 3 (.t 200) (.t 201)),kI 199 (.faddr 203 0 (.t 202)),kI 199 (.load 204 1 false (.t 203)),kI 199 (.len 205 (.t 204)),kI 199 (.bin 206 .eql (.t 205) (φ 1)),zAA 192 (.pick 207 (.t 199) (.t 206) (χ false)),zAA 192 (.mov 208 (.t 207)),kI 208 (.mov 209 (.t 21)),kI 208 (.mov 210 (.t 27)),kI 208 (.iaddr 211 3 (.t 209) (.t 210)),kI 208 (.faddr 212 0 (.t 211)),kI 208 (.load 213 1 false (.t 212)),kI 208 (.len 214 (.t 213)),kI 208 (.bin 215 .eql (.t 214) (φ 1)),zAA 192 (.pick 216 (.t 208) (.t 215) (χ false)),zAA 192 (.mov 217 (.t 216)),kI 217 (.mov 218 (.t 19)),kI 217 (.mov 219 (.t 29)),kI 217 (.iaddr 220 3 (.t 218) (.t 219)),kI 217 (.faddr 221 0 (.t 220)),kI 217 (.load 222 1 false (.t 221)),kI 217 (.iaddr 223 1 (.t 222) (φ 0)),kI 217 (.load 224 1 false (.t 223)),kI 217 (.mov 225 (.t 21)),kI 217 (.mov 226 (.t 27)),kI 217 (.iaddr 227 3 (.t 225) (.t 226)),kI 217 (.faddr 228 0 (.t 227)),kI 217 (.load 229 1 false (.t 228)),kI 217 (.iaddr 230 1 (.t 229) (φ 0)),kI 217 (.load 231 1 false (.t 230)),kI 217 (.bin 232 .eql (.t 224) (.t 231)),zAA 192 (.pick 233 (.t 217) (.t 232) (χ false)),η (.pick 234 (.t 192) (χ true) (.t 233)),θ 28 234]
def f7b58:AQ:=.block 3 (.draw f7r57 [[],[0],[1],[1],[2,3,1],[4,1],[5,1],[6,1],[7,1,1],[8],[8],[9,10,8],[11,8],[12,8],[13,8],[14,8],[8,15,1],[16,8,1],[17],[17],[18,19,17],[20,17],[21,17],[22,17],[23,17],[17,24,1],[25,17,1],[26],[26],[27,28,26],[29,26],[30,26],[31,26],[32,26],[26],[26],[34,35,26],[36,26],[37,26],[38,26],[39,26],[33,40,26],[26,41,1],[1,42],[43,26,0,1,2,3,4,5,6,7,8,9,10,11,12,13,14,15,16,17,18,19,20,21,22,23,24,25,26,27,28,29,30,31,32,33,34,35,36,37,38,39,40,41,42,43]])
def f7b59:AQ:=.seq f7b58 (.region f7r56)
def f7b60:AQ:=.cond (.t 188) .skip (.exit 2)
def f7r61:LA:=[θ 185 29,θ 186 19,Ω 187 186,vX 188 .lss 185 187]
def f7b62:AQ:=ζ f7r61 f7b60
def f7b63:AQ:=.seq f7b62 f7b59
def f7l64:AQ:=.loop [0,1,5,13,14,15,19,21,27,28,29] [94,96,120,126,121000,121001,121002,127000,127001,127002] f7b63
def f7b65:AQ:=.block 2 f7l64
def f7r66:LA:=[η (.mov 29 (φ 0))]
def f7b67:AQ:=ζ f7r66 f7b65
def f7b68:AQ:=.seq f7b67 f7b55
def f7r69:LA:=[θ 180 21,θ 181 27,Ψ 182 3 180 181,Γ 183 2 182,ψ 184 1 183,θ 28 184]
def f7b70:AQ:=ζ f7r69 f7b68
def f7b71:AQ:=.block 1 f7b70
def f7b72:AQ:=.seq f7b71 (.region f7r50)
def f7b73:AQ:=.cond (.t 177) .skip (.exit 0)
def f7r74:LA:=[θ 174 27,θ 175 21,Ω 176 175,vX 177 .lss 174 176]
def f7b75:AQ:=ζ f7r74 f7b73
def f7b76:AQ:=.seq f7b75 f7b72
def f7l77:AQ:=.loop [0,1,5,13,14,15,19,21,27] [94,96,120,126,121000,121001,121002,127000,127001,127002] f7b76
def f7b78:AQ:=.block 0 f7l77
def f7r79:LA:=[η (.mov 27 (φ 0))]
def f7b80:AQ:=ζ f7r79 f7b78
def f7b81:AQ:=.seq f7b80 f7b49
def f7r82:LA:=[η (.mov 12 (χ false))]
def f7b83:AQ:=ζ f7r82 .ret
def f7b84:AQ:=.cond (.t 173) f7b83 .skip
def f7r85:LA:=[θ 141 17,η (.bin 142 .neq (.t 141) (φ 0)),θ 143 142,zAA 143 (.mov 144 (.t 20)),zAA 143 (.bin 145 .neq (.t 144) (φ 0)),η (.pick 146 (.t 143) (χ true) (.t 145)),θ 147 146,zAA 147 (.mov 148 (.t 22)),zAA 147 (.bin 149 .neq (.t 148) (φ 0)),η (.pick 150 (.t 147) (χ true) (.t 149)),θ 151 150,zAA 151 (.mov 152 (.t 24)),zAA 151 (.bin 153 .neq (.t 152) (φ 0)),η (.pick 154 (.t 151) (χ true) (.t 153)),θ 155 154,zAA 155 (.mov 156 (.t 26)),zAA 155 (.bin 157 .neq (.t 156) (φ 0)),η (.pick 158 (.t 155) (χ true) (.t 157)),θ 159 158,zAA 159 (.mov 160 (.t 23)),zAA 159 (.bin 161 .neq (.t 160) (φ 2)),zAA 159 (.mov 162 (.t 161)),kI 162 (.mov 163 (.t 23)),kI 162 (.mov 164 (.t 25)),kI 162 (.bin 165 .neq (.t 163) (.t 164)),zAA 159 (.pick 166 (.t 162) (.t 165) (χ false)),η (.pick 167 (.t 159) (χ true) (.t 166)),θ 168 167,zAA 168 (.mov 169 (.t 19)),zAA 168 (.mov 170 (.t 21)),zAA 168 (.call (some 171) 28 [(.t 169),(.t 170)]),zAA 168 (.un 172 .not (.t 171)),η (.pick 173 (.t 168) (χ true) (.t 172))]
def f7b86:AQ:=ζ f7r85 f7b84
def f7b87:AQ:=.seq f7b86 f7b81
def f7r88:LA:=[θ 136 0,θ 137 18,Ξ 138 12 136 137,θ 135 138,Δ 139 135 0,Δ 140 135 1,θ 25 139,θ 26 140]
def f7b89:AQ:=ζ f7r88 f7b87
def f7r90:LA:=[θ 130 0,θ 131 1,Ξ 132 12 130 131,θ 129 132,Δ 133 129 0,Δ 134 129 1,θ 23 133,θ 24 134]
def f7b91:AQ:=ζ f7r90 f7b89
def f7r92:LA:=[θ 124 0,θ 125 18,Ξ 126 10 124 125,θ 123 126,Δ 127 123 0,Δ 128 123 1,θ 21 127,θ 22 128]
def f7b93:AQ:=ζ f7r92 f7b91
def f7r94:LA:=[θ 118 0,θ 119 1,Ξ 120 10 118 119,θ 117 120,Δ 121 117 0,Δ 122 117 1,θ 19 121,θ 20 122]
def f7b95:AQ:=.frz 94 (ζ f7r94 f7b93)
def f7r96o0:AI:=.mk none (.mov 98 (.t 18))
def f7r96o1:AI:=.mk none (.mov 99 (.t 14))
def f7r96o2:AI:=.mk none (.mov 100 (.t 1))
def f7r96o3:AI:=.mk none (.mov 101 (.t 14))
def f7r96o4:AI:=.mk none (.iaddr 102 2 (.t 100) (.t 101))
def f7r96o5:AI:=.mk none (.load 103 2 true (.t 102))
def f7r96o6:AI:=.mk none (.mov 104 (.t 15))
def f7r96o7:AI:=.mk none (.mov 105 (.t 16))
def f7r96o8:AI:=.mk none (.mov 106 (.t 4))
def f7r96o9:AI:=.mk none (.conv 107 .i64 (.t 106))
def f7r96o10:AI:=.mk none (.mov 108 (.t 16))
def f7r96o11:AI:=.mk none (.len 109 (.t 108))
def f7r96o12:AI:=.mk none (.bin 110 .rem (.t 107) (.t 109))
def f7r96o13:AI:=.mk none (.iaddr 111 1 (.t 105) (.t 110))
def f7r96o14:AI:=.mk none (.load 112 1 false (.t 111))
def f7r96o15:AI:=.mk none (.call (some 113) 26 [(.t 103),(.t 104),(.t 112)])
def f7r96o16:AI:=.mk none (.mov 97 (.t 113))
def f7r96o17:AI:=.mk none (.extr 114 (.t 97) 0)
def f7r96o18:AI:=.mk none (.extr 115 (.t 97) 1)
def f7r96o19:AI:=.mk none (.iaddr 116 2 (.t 98) (.t 99))
def f7r96o20:AI:=.mk none (.store 2 (.t 116) (.t 114))
def f7r96o21:AI:=.mk none (.mov 17 (.t 115))
def f7r96:LA:=[f7r96o0,f7r96o1,f7r96o2,f7r96o3,f7r96o4,f7r96o5,f7r96o6,f7r96o7,f7r96o8,f7r96o9,f7r96o10,f7r96o11,f7r96o12,f7r96o13,f7r96o14,f7r96o15,f7r96o16,f7r96o17,f7r96o18,f7r96o19,f7r96o20,f7r96o21]
theorem zrb:pZ f7r96 [[],[],[],[],[2,3],[4],[],[],[],[8],[],[10],[9,11],[7,12],[13],[5,6,14],[15],[16],[16],[0,1,0,1,2,3,4,5,6,7,8,9,10,11,12,13,14,15,16,17],[19,17,15,0,1,2,3,4,5,6,7,8,9,10,11,12,13,14,15,16,17],[18,20,0,1,2,3,4,5,6,7,8,9,10,11,12,13,14,15,16,17,18,19,20]]=(.one f7r96o0 (.one f7r96o1 (.one f7r96o2 (.one f7r96o3 (.one f7r96o4 (.one f7r96o5 (.one f7r96o6 (.one f7r96o7 (.one f7r96o8 (.one f7r96o9 (.one f7r96o10 (.one f7r96o11 (.one f7r96o12 (.one f7r96o13 (.one f7r96o14 (.one f7r96o15 (.one f7r96o16 (.one f7r96o17 (.one f7r96o19 (.alt (.one f7r96o18 (.one f7r96o20 (.one f7r96o21 .done))) (.alt (.one f7r96o20 (.one f7r96o18 (.one f7r96o21 .done))) .top))))))))))))))))))))):=by kernel_rfl
def f7b97:AQ:=.seq (.tree f7r96 [[],[],[],[],[2,3],[4],[],[],[],[8],[],[10],[9,11],[7,12],[13],[5,6,14],[15],[16],[16],[0,1,0,1,2,3,4,5,6,7,8,9,10,11,12,13,14,15,16,17],[19,17,15,0,1,2,3,4,5,6,7,8,9,10,11,12,13,14,15,16,17],[18,20,0,1,2,3,4,5,6,7,8,9,10,11,12,13,14,15,16,17,18,19,20]]) (.keep [0,1,5,13,14,15,17,18] [94,96] f7b95)
def f7r98:LA:=[η (.bslice 94 58 2 [(.str []),(.list 0 (some true) [])] 0 []),θ 95 1,η (.append 96 58 2 40 (.t 94) (.t 95)),θ 18 96]
def f7b99:AQ:=ζ f7r98 f7b97
def f7r100:LA:=[η (.mov 12 (χ false))]
def f7b101:AQ:=ζ f7r100 .ret
def f7b102:AQ:=.cond (.t 93) f7b101 .skip
def f7r103:LA:=[θ 87 17,η (.bin 88 .neq (.t 87) (φ 0)),θ 89 88,zAA 89 (.mov 90 (.t 16)),zAA 89 (.len 91 (.t 90)),zAA 89 (.bin 92 .eql (.t 91) (φ 0)),η (.pick 93 (.t 89) (χ true) (.t 92))]
def f7b104:AQ:=ζ f7r103 f7b102
def f7b105:AQ:=.seq f7b104 f7b99
def f7r106:LA:=[θ 79 1,θ 80 14,Ψ 81 2 79 80,ω 82 2 81,θ 83 15,Ξ 84 27 82 83,θ 78 84,Δ 85 78 0,Δ 86 78 1,θ 16 85,θ 17 86]
def f7b107:AQ:=ζ f7r106 f7b105
def f7r108:LA:=[θ 69 3,η (.conv 70 .i64 (.t 69)),θ 71 1,θ 72 14,Ψ 73 2 71 72,Γ 74 1 73,ψ 75 1 74,Ω 76 75,vX 77 .rem 70 76,θ 15 77]
def f7b109:AQ:=ζ f7r108 f7b107
def f7r110:LA:=[θ 68 13,θ 12 68]
def f7b111:AQ:=ζ f7r110 .ret
def f7b112:AQ:=.cond (.t 67) f7b111 .skip
def f7r113:LA:=[θ 61 1,θ 62 14,Ψ 63 2 61 62,Γ 64 1 63,ψ 65 1 64,Ω 66 65,η (.bin 67 .eql (.t 66) (φ 0))]
def f7b114:AQ:=ζ f7r113 f7b112
def f7b115:AQ:=.seq f7b114 f7b109
def f7r116:LA:=[θ 56 2,η (.conv 57 .i64 (.t 56)),θ 58 1,Ω 59 58,vX 60 .rem 57 59,θ 14 60]
def f7b117:AQ:=ζ f7r116 f7b115
def f7r118:LA:=[θ 55 13,θ 12 55]
def f7b119:AQ:=ζ f7r118 .ret
def f7b120:AQ:=.cond (.t 54) f7b119 .skip
def f7r121:LA:=[θ 40 0,θ 41 1,Ξ 42 9 40 41,η (.un 43 .not (.t 42)),θ 44 43,zAA 44 (.mov 45 (.t 1)),zAA 44 (.len 46 (.t 45)),zAA 44 (.bin 47 .eql (.t 46) (φ 0)),η (.pick 48 (.t 44) (χ true) (.t 47)),θ 49 48,zAA 49 (.mov 50 (.t 0)),zAA 49 (.mov 51 (.t 1)),zAA 49 (.call (some 52) 20 [(.t 50),(.t 51)]),zAA 49 (.bin 53 .neq (.t 52) (φ 0)),η (.pick 54 (.t 49) (χ true) (.t 53))]
def f7b122:AQ:=ζ f7r121 f7b120
def f7b123:AQ:=.seq f7b122 f7b117
def f7r124:LA:=[η (.call (some 39) 8 []),θ 13 39]
def f7b125:AQ:=ζ f7r124 f7b123
def f7r126:LA:=[η (.mov 12 (χ false))]
def f7b127:AQ:=ζ f7r126 f7b125
def f7:AQ:=f7b127
theorem hf7:zH Tryz.prog 7=some ⟨314,f7.erase,[(RX.t 12)]⟩:=by kernel_rfl
theorem okf7:f7.ok=true:=by kernel_rfl
def Υ7:=PLift.up (ξ (vv f7r50.eq_1)<|ξ (uu f7b65.eq_1)<|ξ (vv f7r66.eq_1)<|ξ (uu f7b67.eq_1)<|ξ (uu f7b68.eq_1)<|ξ (vv f7r69.eq_1)<|ξ (uu f7b70.eq_1)<|ξ (uu f7b71.eq_1)<|ξ (uu f7b72.eq_1)<|ξ (uu f7b73.eq_1)<|ξ (vv f7r74.eq_1)<|ξ (uu f7b75.eq_1)<|ξ (uu f7b76.eq_1)<|ξ (vv f7r56.eq_1)<|ξ (vv f7r57.eq_1)<|ξ (uu f7b58.eq_1)<|ξ (uu f7b59.eq_1)<|ξ (uu f7b60.eq_1)<|ξ (vv f7r61.eq_1)<|ξ (uu f7b62.eq_1)<|ξ (uu f7b63.eq_1)<|ξ (uu f7b53.eq_1)<|ξ (vv f7r54.eq_1)<|ξ (uu f7b55.eq_1)<|ξ (vv f7r46.eq_1)<|ξ (uu f7b47.eq_1)<|ξ (vv f7r48.eq_1)<|ξ (uu f7b49.eq_1)<|ξ (vv f7r42.eq_1)<|ξ (uu f7b43.eq_1)<|ξ (vv f7r44.eq_1)<|ξ (uu f7b45.eq_1)<|ξ (uu f7b30.eq_1)<|ξ (vv f7r31.eq_1)<|ξ (uu f7b32.eq_1)<|ξ (uu f7b33.eq_1)<|ξ (vv f7r34.eq_1)<|ξ (uu f7b35.eq_1)<|ξ (uu f7b38.eq_1)<|ξ (vv f7r39.eq_1)<|ξ (uu f7b40.eq_1)<|ξ (uu f7b41.eq_1)<|ξ (vv f7r3.eq_1)<|ξ (uu f7b17.eq_1)<|ξ (vv f7r18.eq_1)<|ξ (uu f7b19.eq_1)<|ξ (uu f7b20.eq_1)<|ξ (vv f7r21.eq_1)<|ξ (uu f7b22.eq_1)<|ξ (uu f7b23.eq_1)<|ξ (uu f7b24.eq_1)<|ξ (uu f7b25.eq_1)<|ξ (vv f7r26.eq_1)<|ξ (uu f7b27.eq_1)<|ξ (uu f7b28.eq_1)<|ξ (vv f7r8.eq_1)<|ξ (vv f7r9.eq_1)<|ξ (uu f7b10.eq_1)<|ξ (uu f7b11.eq_1)<|ξ (uu f7b12.eq_1)<|ξ (vv f7r13.eq_1)<|ξ (uu f7b14.eq_1)<|ξ (uu f7b15.eq_1)<|ξ (vv f7r4.eq_1)<|ξ (uu f7b5.eq_1)<|ξ (vv f7r6.eq_1)<|ξ (uu f7b7.eq_1)<|ξ (vv f7r1.eq_1)<|ξ (uu f7b2.eq_1)<|ξ (vv f7r36.eq_1)<|ξ (uu f7b37.eq_1)<|ξ (uu f7.eq_1)<|ξ (vv f7r124.eq_1)<|ξ (uu f7b125.eq_1)<|ξ (vv f7r126.eq_1)<|ξ (uu f7b127.eq_1)<|ξ (vv f7r121.eq_1)<|ξ (uu f7b122.eq_1)<|ξ (uu f7b123.eq_1)<|ξ (vv f7r118.eq_1)<|ξ (uu f7b119.eq_1)<|ξ (uu f7b120.eq_1)<|ξ (vv f7r110.eq_1)<|ξ (uu f7b111.eq_1)<|ξ (uu f7b112.eq_1)<|ξ (vv f7r113.eq_1)<|ξ (uu f7b114.eq_1)<|ξ (uu f7b115.eq_1)<|ξ (vv f7r116.eq_1)<|ξ (uu f7b117.eq_1)<|ξ (vv f7r106.eq_1)<|ξ (uu f7b107.eq_1)<|ξ (vv f7r108.eq_1)<|ξ (uu f7b109.eq_1)<|ξ (uu f7b97.eq_1)<|ξ (vv f7r98.eq_1)<|ξ (uu f7b99.eq_1)<|ξ (vv f7r100.eq_1)<|ξ (uu f7b101.eq_1)<|ξ (uu f7b102.eq_1)<|ξ (vv f7r103.eq_1)<|ξ (uu f7b104.eq_1)<|ξ (uu f7b105.eq_1)<|ξ (vv f7r94.eq_1)<|ξ (uu f7b95.eq_1)<|ξ (vv f7r92.eq_1)<|ξ (uu f7b93.eq_1)<|ξ (vv f7r90.eq_1)<|ξ (uu f7b91.eq_1)<|ξ (vv f7r88.eq_1)<|ξ (uu f7b89.eq_1)<|ξ (vv f7r85.eq_1)<|ξ (uu f7b86.eq_1)<|ξ (uu f7b87.eq_1)<|ξ (uu f7b78.eq_1)<|ξ (vv f7r79.eq_1)<|ξ (uu f7b80.eq_1)<|ξ (uu f7b81.eq_1)<|ξ (uu f7b84.eq_1)<|ξ (vv f7r82.eq_1)<|uu f7b83.eq_1)
theorem Ψ7:type_of% Υ7.1:=Υ7.1
def f207r1:LA:=[θ 5 0,η (.mkfn 6 209 [(.t 3)]),Ξ 7 208 5 6,θ 4 7]
def f207b2:AQ:=ζ f207r1 .ret
def f207r3:LA:=[xB 3 9 1,η (.mov 4 (χ false))]
def f207b4:AQ:=ζ f207r3 (.frz 3 f207b2)
def f207:AQ:=f207b4
theorem hf207:zH Tryz.prog 207=some ⟨8,f207.erase,[(RX.t 4)]⟩:=by kernel_rfl
theorem okf207:f207.ok=true:=by kernel_rfl
def Υ207:=PLift.up (ξ (uu f207.eq_1)<|ξ (vv f207r1.eq_1)<|ξ (uu f207b2.eq_1)<|ξ (vv f207r3.eq_1)<|uu f207b4.eq_1)
theorem Ψ207:type_of% Υ207.1:=Υ207.1
def f208r1:LA:=[θ 5 0,θ 6 1,Ξ 7 210 5 6,η (.bin 8 .geq (.t 7) (φ 0)),θ 4 8]
def f208b2:AQ:=ζ f208r1 .ret
def f208r3:LA:=[η (.mov 4 (χ false))]
def f208b4:AQ:=ζ f208r3 f208b2
def f208:AQ:=f208b4
theorem hf208:zH Tryz.prog 208=some ⟨9,f208.erase,[(RX.t 4)]⟩:=by kernel_rfl
theorem okf208:f208.ok=true:=by kernel_rfl
def Υ208:=PLift.up (ξ (uu f208.eq_1)<|ξ (vv f208r1.eq_1)<|ξ (uu f208b2.eq_1)<|ξ (vv f208r3.eq_1)<|uu f208b4.eq_1)
theorem Ψ208:type_of% Υ208.1:=Υ208.1
def f209r1:LA:=[Γ 4 0 2,ψ 5 1 4,ψ 6 1 1,vX 7 .eql 5 6,θ 3 7]
def f209b2:AQ:=ζ f209r1 .ret
def f209r3:LA:=[xB 2 53 0,η (.mov 3 (χ false))]
def f209b4:AQ:=ζ f209r3 (.frz 2 f209b2)
def f209:AQ:=f209b4
theorem hf209:zH Tryz.prog 209=some ⟨8,f209.erase,[(RX.t 3)]⟩:=by kernel_rfl
theorem okf209:f209.ok=true:=by kernel_rfl
def Υ209:=PLift.up (ξ (uu f209.eq_1)<|ξ (vv f209r1.eq_1)<|ξ (uu f209b2.eq_1)<|ξ (vv f209r3.eq_1)<|uu f209b4.eq_1)
theorem Ψ209:type_of% Υ209.1:=Υ209.1
def f210r1:LA:=[η (.mov 4 (.v (.k (.c (.int .i64 (-1))))))]
def f210b2:AQ:=ζ f210r1 .ret
def f210r3:LA:=[η (.bin 18 .add (.t 8) (φ 1)),θ 8 18]
def f210r4:LA:=[θ 17 5,θ 4 17]
def f210b5:AQ:=ζ f210r4 .ret
def f210b6:AQ:=.cond (.t 16) f210b5 .skip
def f210r7:LA:=[θ 11 1,θ 12 0,θ 13 5,Ψ 14 3 12 13,ω 15 3 14,η (.callv (some 16) (.t 11) [(.t 15)])]
def f210b8:AQ:=ζ f210r7 f210b6
def f210r9:LA:=[θ 10 8,θ 5 10]
def f210b10:AQ:=ζ f210r9 f210b8
def f210b11:AQ:=.block 1 f210b10
def f210b12:AQ:=.seq f210b11 (.region f210r3)
def f210b13:AQ:=.cond (.t 9) .skip (.exit 0)
def f210b14:AQ:=.seq f210b13 f210b12
def f210r15:LA:=[vX 9 .lss 8 7]
def f210b16:AQ:=ζ f210r15 f210b14
def f210l17:AQ:=.loop [0,1,7,8] [] f210b16
def f210b18:AQ:=.block 0 f210l17
def f210r19:LA:=[θ 6 0,Ω 7 6,η (.mov 8 (φ 0))]
def f210b20:AQ:=ζ f210r19 f210b18
def f210b21:AQ:=.seq f210b20 f210b2
def f210r22:LA:=[η (.mov 4 (φ 0))]
def f210b23:AQ:=ζ f210r22 f210b21
def f210:AQ:=f210b23
theorem hf210:zH Tryz.prog 210=some ⟨19,f210.erase,[(RX.t 4)]⟩:=by kernel_rfl
theorem okf210:f210.ok=true:=by kernel_rfl
def Υ210:=PLift.up (ξ (uu f210.eq_1)<|ξ (uu f210b18.eq_1)<|ξ (vv f210r19.eq_1)<|ξ (uu f210b20.eq_1)<|ξ (uu f210b21.eq_1)<|ξ (vv f210r22.eq_1)<|ξ (uu f210b23.eq_1)<|ξ (vv f210r3.eq_1)<|ξ (vv f210r7.eq_1)<|ξ (uu f210b8.eq_1)<|ξ (vv f210r9.eq_1)<|ξ (uu f210b10.eq_1)<|ξ (uu f210b11.eq_1)<|ξ (uu f210b12.eq_1)<|ξ (uu f210b13.eq_1)<|ξ (uu f210b14.eq_1)<|ξ (vv f210r15.eq_1)<|ξ (uu f210b16.eq_1)<|ξ (vv f210r4.eq_1)<|ξ (uu f210b5.eq_1)<|ξ (uu f210b6.eq_1)<|ξ (vv f210r1.eq_1)<|uu f210b2.eq_1)
theorem Ψ210:type_of% Υ210.1:=Υ210.1
def f40r1:LA:=[η (.mov 4 (.v (.k (.c (.int .i64 (-1))))))]
def f40b2:AQ:=ζ f40r1 .ret
def f40r3:LA:=[η (.bin 18 .add (.t 8) (φ 1)),θ 8 18]
def f40r4:LA:=[θ 17 5,θ 4 17]
def f40b5:AQ:=ζ f40r4 .ret
def f40b6:AQ:=.cond (.t 16) f40b5 .skip
def f40r7:LA:=[θ 11 1,θ 12 0,θ 13 5,Ψ 14 1 12 13,ψ 15 1 14,vX 16 .eql 11 15]
def f40b8:AQ:=ζ f40r7 f40b6
def f40r9:LA:=[θ 10 8,θ 5 10]
def f40b10:AQ:=ζ f40r9 f40b8
def f40b11:AQ:=.block 1 f40b10
def f40b12:AQ:=.seq f40b11 (.region f40r3)
def f40b13:AQ:=.cond (.t 9) .skip (.exit 0)
def f40b14:AQ:=.seq f40b13 f40b12
def f40r15:LA:=[vX 9 .lss 8 7]
def f40b16:AQ:=ζ f40r15 f40b14
def f40l17:AQ:=.loop [0,1,7,8] [] f40b16
def f40b18:AQ:=.block 0 f40l17
def f40r19:LA:=[θ 6 0,Ω 7 6,η (.mov 8 (φ 0))]
def f40b20:AQ:=ζ f40r19 f40b18
def f40b21:AQ:=.seq f40b20 f40b2
def f40r22:LA:=[η (.mov 4 (φ 0))]
def f40b23:AQ:=ζ f40r22 f40b21
def f40:AQ:=f40b23
theorem hf40:zH Tryz.prog 40=some ⟨19,f40.erase,[(RX.t 4)]⟩:=by kernel_rfl
theorem okf40:f40.ok=true:=by kernel_rfl
def Υ40:=PLift.up (ξ (uu f40.eq_1)<|ξ (uu f40b18.eq_1)<|ξ (vv f40r19.eq_1)<|ξ (uu f40b20.eq_1)<|ξ (uu f40b21.eq_1)<|ξ (vv f40r22.eq_1)<|ξ (uu f40b23.eq_1)<|ξ (vv f40r3.eq_1)<|ξ (vv f40r4.eq_1)<|ξ (uu f40b5.eq_1)<|ξ (uu f40b6.eq_1)<|ξ (vv f40r7.eq_1)<|ξ (uu f40b8.eq_1)<|ξ (vv f40r9.eq_1)<|ξ (uu f40b10.eq_1)<|ξ (uu f40b11.eq_1)<|ξ (uu f40b12.eq_1)<|ξ (uu f40b13.eq_1)<|ξ (uu f40b14.eq_1)<|ξ (vv f40r15.eq_1)<|ξ (uu f40b16.eq_1)<|ξ (vv f40r1.eq_1)<|uu f40b2.eq_1)
theorem Ψ40:type_of% Υ40.1:=Υ40.1
def f215r1:LA:=[θ 44 6,θ 4 44,η (.mov 5 (χ true))]
def f215b2:AQ:=ζ f215r1 .ret
def f215r3:LA:=[η (.bin 43 .add (.t 12) (φ 1)),θ 12 43]
def f215r4:LA:=[θ 35 6,Γ 36 2 8,ψ 37 1 36,θ 38 9,Ψ 39 1 37 38,ψ 40 1 39,η (.bslice 41 9 1 [(.str [])] 1 [(0,(.t 40))]),η (.append 42 9 1 16 (.t 35) (.t 41)),θ 6 42]
def f215r5:LA:=[η (.nilL 4 9 1),η (.mov 5 (χ false))]
def f215b6:AQ:=ζ f215r5 .ret
def f215b7:AQ:=.cond (.t 34) f215b6 .skip
def f215r8:LA:=[θ 26 9,η (.bin 27 .lss (.t 26) (φ 0)),θ 28 27,zAA 28 (.mov 29 (.t 9)),zAA 28 (.faddr 30 2 (.t 8)),zAA 28 (.load 31 1 false (.t 30)),zAA 28 (.len 32 (.t 31)),zAA 28 (.bin 33 .geq (.t 29) (.t 32)),η (.pick 34 (.t 28) (χ true) (.t 33))]
def f215b9:AQ:=ζ f215r8 f215b7
def f215b10:AQ:=.seq f215b9 (.region f215r4)
def f215r11:LA:=[Γ 21 1 8,ψ 22 1 21,Γ 23 1 3,ψ 24 1 23,Ξ 25 40 22 24,θ 9 25]
def f215b12:AQ:=ζ f215r11 f215b10
def f215b13:AQ:=.cond (.t 20) (.exit 1) .skip
def f215r14:LA:=[Γ 16 0 8,ψ 17 1 16,Γ 18 0 3,ψ 19 1 18,vX 20 .neq 17 19]
def f215b15:AQ:=ζ f215r14 f215b13
def f215b16:AQ:=.seq f215b15 f215b12
def f215r17:LA:=[Ψ 14 3 10 12,ω 15 3 14,η (.alloc 8 53 [(.str []),(.list 0 (some true) []),(.list 0 (some true) [])]),Φ 3 8 15]
def f215b18:AQ:=ζ f215r17 (.frz 8 f215b16)
def f215b19:AQ:=.block 1 f215b18
def f215b20:AQ:=.seq f215b19 (.region f215r3)
def f215b21:AQ:=.cond (.t 13) .skip (.exit 0)
def f215b22:AQ:=.seq f215b21 f215b20
def f215r23:LA:=[vX 13 .lss 12 11]
def f215b24:AQ:=ζ f215r23 f215b22
def f215l25:AQ:=.loop [3,6,10,11,12] [3,6,42] f215b24
def f215b26:AQ:=.block 0 f215l25
def f215r27:LA:=[θ 10 0,Ω 11 10,η (.mov 12 (φ 0))]
def f215b28:AQ:=ζ f215r27 f215b26
def f215b29:AQ:=.seq f215b28 f215b2
def f215r30:LA:=[η (.nilL 6 9 1)]
def f215b31:AQ:=ζ f215r30 f215b29
def f215r32:LA:=[xB 3 163 1,η (.nilL 4 9 1),η (.mov 5 (χ false))]
def f215b33:AQ:=ζ f215r32 (.frz 3 f215b31)
def f215:AQ:=f215b33
theorem hf215:zH Tryz.prog 215=some ⟨45,f215.erase,[(RX.t 4),(RX.t 5)]⟩:=by kernel_rfl
theorem okf215:f215.ok=true:=by kernel_rfl
def Υ215:=PLift.up (ξ (uu f215.eq_1)<|ξ (uu f215b26.eq_1)<|ξ (vv f215r27.eq_1)<|ξ (uu f215b28.eq_1)<|ξ (uu f215b29.eq_1)<|ξ (vv f215r30.eq_1)<|ξ (uu f215b31.eq_1)<|ξ (vv f215r32.eq_1)<|ξ (uu f215b33.eq_1)<|ξ (vv f215r3.eq_1)<|ξ (vv f215r11.eq_1)<|ξ (uu f215b12.eq_1)<|ξ (uu f215b13.eq_1)<|ξ (vv f215r14.eq_1)<|ξ (uu f215b15.eq_1)<|ξ (uu f215b16.eq_1)<|ξ (vv f215r17.eq_1)<|ξ (uu f215b18.eq_1)<|ξ (uu f215b19.eq_1)<|ξ (uu f215b20.eq_1)<|ξ (uu f215b21.eq_1)<|ξ (uu f215b22.eq_1)<|ξ (vv f215r23.eq_1)<|ξ (uu f215b24.eq_1)<|ξ (vv f215r4.eq_1)<|ξ (vv f215r5.eq_1)<|ξ (uu f215b6.eq_1)<|ξ (uu f215b7.eq_1)<|ξ (vv f215r8.eq_1)<|ξ (uu f215b9.eq_1)<|ξ (uu f215b10.eq_1)<|ξ (vv f215r1.eq_1)<|uu f215b2.eq_1)
theorem Ψ215:type_of% Υ215.1:=Υ215.1
def f204r1:LA:=[θ 5 1,Γ 6 0 2,ψ 7 1 6,Ξ 8 207 5 7,θ 4 8]
def f204b2:AQ:=ζ f204r1 .ret
def f204r3:LA:=[xB 2 165 0,η (.mov 4 (χ false))]
def f204b4:AQ:=ζ f204r3 (.frz 2 f204b2)
def f204:AQ:=f204b4
theorem hf204:zH Tryz.prog 204=some ⟨9,f204.erase,[(RX.t 4)]⟩:=by kernel_rfl
theorem okf204:f204.ok=true:=by kernel_rfl
def Υ204:=PLift.up (ξ (uu f204.eq_1)<|ξ (vv f204r1.eq_1)<|ξ (uu f204b2.eq_1)<|ξ (vv f204r3.eq_1)<|uu f204b4.eq_1)
theorem Ψ204:type_of% Υ204.1:=Υ204.1
def f205r1:LA:=[Γ 3 0 1,ψ 4 1 3,Θ 5 92 4,θ 2 5]
def f205b2:AQ:=ζ f205r1 .ret
def f205r3:LA:=[xB 1 165 0,η (.mov 2 (χ false))]
def f205b4:AQ:=ζ f205r3 (.frz 1 f205b2)
def f205:AQ:=f205b4
theorem hf205:zH Tryz.prog 205=some ⟨6,f205.erase,[(RX.t 2)]⟩:=by kernel_rfl
theorem okf205:f205.ok=true:=by kernel_rfl
def Υ205:=PLift.up (ξ (uu f205.eq_1)<|ξ (vv f205r1.eq_1)<|ξ (uu f205b2.eq_1)<|ξ (vv f205r3.eq_1)<|uu f205b4.eq_1)
theorem Ψ205:type_of% Υ205.1:=Υ205.1
def f206r1:LA:=[Γ 3 0 1,ψ 4 1 3,η (.bin 5 .add (.v (.k (.c (.str [110,101,101,100,32])))) (.t 4)),η (.bin 6 .add (.t 5) (.v (.k (.c (.str [32,59]))))),θ 2 6]
def f206b2:AQ:=ζ f206r1 .ret
def f206r3:LA:=[xB 1 165 0,η (.mov 2 (.v (.k (.c (.str [])))))]
def f206b4:AQ:=ζ f206r3 (.frz 1 f206b2)
def f206:AQ:=f206b4
theorem hf206:zH Tryz.prog 206=some ⟨7,f206.erase,[(RX.t 2)]⟩:=by kernel_rfl
theorem okf206:f206.ok=true:=by kernel_rfl
def Υ206:=PLift.up (ξ (uu f206.eq_1)<|ξ (vv f206r1.eq_1)<|ξ (uu f206b2.eq_1)<|ξ (vv f206r3.eq_1)<|uu f206b4.eq_1)
theorem Ψ206:type_of% Υ206.1:=Υ206.1
def f203r1:LA:=[Γ 3 0 1,ψ 4 1 3,η (.build 5 [(.int .i64 0),(.str []),(.str []),(.str []),(.str []),(.str []),(.int .i64 0),(.int .i64 0)] [(0,(1,(φ 0))),(1,(1,(.t 4)))]),Φ 8 2 5]
def f203b2:AQ:=ζ f203r1 .ret
def f203r3:LA:=[xB 1 165 0,η (.alloc 2 46 [(.int .i64 0),(.str []),(.str []),(.str []),(.str []),(.str []),(.int .i64 0),(.int .i64 0)])]
def f203b4:AQ:=ζ f203r3 (.frz 1 f203b2)
def f203:AQ:=f203b4
theorem hf203:zH Tryz.prog 203=some ⟨6,f203.erase,[(RX.cell 2 8 true)]⟩:=by kernel_rfl
theorem okf203:f203.ok=true:=by kernel_rfl
def Υ203:=PLift.up (ξ (uu f203.eq_1)<|ξ (vv f203r1.eq_1)<|ξ (uu f203b2.eq_1)<|ξ (vv f203r3.eq_1)<|uu f203b4.eq_1)
theorem Ψ203:type_of% Υ203.1:=Υ203.1
def f201r1:LA:=[Γ 3 0 1,ψ 4 1 3,Θ 5 92 4,θ 6 5,kI 6 (.faddr 7 1 (.t 1)),kI 6 (.load 8 1 false (.t 7)),kI 6 (.call (some 9) 92 [(.t 8)]),η (.pick 10 (.t 6) (.t 9) (χ false)),θ 2 10]
def f201b2:AQ:=ζ f201r1 .ret
def f201r3:LA:=[xB 1 163 0,η (.mov 2 (χ false))]
def f201b4:AQ:=ζ f201r3 (.frz 1 f201b2)
def f201:AQ:=f201b4
theorem hf201:zH Tryz.prog 201=some ⟨11,f201.erase,[(RX.t 2)]⟩:=by kernel_rfl
theorem okf201:f201.ok=true:=by kernel_rfl
def Υ201:=PLift.up (ξ (uu f201.eq_1)<|ξ (vv f201r1.eq_1)<|ξ (uu f201b2.eq_1)<|ξ (vv f201r3.eq_1)<|uu f201b4.eq_1)
theorem Ψ201:type_of% Υ201.1:=Υ201.1
def f202r1:LA:=[Γ 3 0 1,ψ 4 1 3,η (.bin 5 .add (.t 4) (.v (.k (.c (.str [32,46,32]))))),Γ 6 1 1,ψ 7 1 6,vX 8 .add 5 7,θ 2 8]
def f202b2:AQ:=ζ f202r1 .ret
def f202r3:LA:=[xB 1 163 0,η (.mov 2 (.v (.k (.c (.str [])))))]
def f202b4:AQ:=ζ f202r3 (.frz 1 f202b2)
def f202:AQ:=f202b4
theorem hf202:zH Tryz.prog 202=some ⟨9,f202.erase,[(RX.t 2)]⟩:=by kernel_rfl
theorem okf202:f202.ok=true:=by kernel_rfl
def Υ202:=PLift.up (ξ (uu f202.eq_1)<|ξ (vv f202r1.eq_1)<|ξ (uu f202b2.eq_1)<|ξ (vv f202r3.eq_1)<|uu f202b4.eq_1)
theorem Ψ202:type_of% Υ202.1:=Υ202.1
def f211r1:LA:=[Γ 3 0 1,Γ 4 0 3,ψ 5 1 4,Γ 6 0 1,Γ 7 1 6,ψ 8 1 7,Γ 9 2 1,ψ 10 1 9,η (.build 11 [(.int .i64 0),(.str []),(.str []),(.str []),(.str []),(.str []),(.int .i64 0),(.int .i64 0)] [(0,(1,(φ 1))),(1,(1,(.t 5))),(2,(1,(.t 8))),(5,(1,(.t 10)))]),Φ 8 2 11]
def f211b2:AQ:=ζ f211r1 .ret
def f211r3:LA:=[xB 1 167 0,η (.alloc 2 46 [(.int .i64 0),(.str []),(.str []),(.str []),(.str []),(.str []),(.int .i64 0),(.int .i64 0)])]
def f211b4:AQ:=ζ f211r3 (.frz 1 f211b2)
def f211:AQ:=f211b4
theorem hf211:zH Tryz.prog 211=some ⟨12,f211.erase,[(RX.cell 2 8 true)]⟩:=by kernel_rfl
theorem okf211:f211.ok=true:=by kernel_rfl
def Υ211:=PLift.up (ξ (uu f211.eq_1)<|ξ (vv f211r1.eq_1)<|ξ (uu f211b2.eq_1)<|ξ (vv f211r3.eq_1)<|uu f211b4.eq_1)
theorem Ψ211:type_of% Υ211.1:=Υ211.1
def f212r1:LA:=[θ 14 6,θ 15 14,kI 15 (.mov 16 (.t 5)),kI 15 (.mkfn 17 216 [(.t 2)]),kI 15 (.call (some 18) 57 [(.t 16),(.t 17)]),kI 15 (.un 19 .not (.t 18)),η (.pick 20 (.t 15) (.t 19) (χ false)),θ 4 20]
def f212b2:AQ:=ζ f212r1 .ret
def f212r3:LA:=[θ 8 1,Γ 9 0 2,ω 10 2 9,Ξ 11 215 8 10,θ 7 11,Δ 12 7 0,Δ 13 7 1,θ 5 12,θ 6 13]
def f212b4:AQ:=ζ f212r3 f212b2
def f212r5:LA:=[xB 2 167 0,η (.mov 4 (χ false))]
def f212b6:AQ:=ζ f212r5 (.frz 2 f212b4)
def f212:AQ:=f212b6
theorem hf212:zH Tryz.prog 212=some ⟨21,f212.erase,[(RX.t 4)]⟩:=by kernel_rfl
theorem okf212:f212.ok=true:=by kernel_rfl
def Υ212:=PLift.up (ξ (uu f212.eq_1)<|ξ (vv f212r3.eq_1)<|ξ (uu f212b4.eq_1)<|ξ (vv f212r5.eq_1)<|ξ (uu f212b6.eq_1)<|ξ (vv f212r1.eq_1)<|uu f212b2.eq_1)
theorem Ψ212:type_of% Υ212.1:=Υ212.1
def f213r1:LA:=[θ 11 4,θ 12 11,kI 12 (.faddr 13 0 (.t 1)),kI 12 (.load 14 2 true (.t 13)),kI 12 (.call (some 15) 201 [(.t 14)]),η (.pick 16 (.t 12) (.t 15) (χ false)),θ 2 16]
def f213b2:AQ:=ζ f213r1 .ret
def f213r3:LA:=[Γ 6 2 1,ψ 7 1 6,Θ 8 217 7,θ 5 8,Δ 9 5 0,Δ 10 5 1,θ 3 9,θ 4 10]
def f213b4:AQ:=ζ f213r3 f213b2
def f213r5:LA:=[xB 1 167 0,η (.mov 2 (χ false))]
def f213b6:AQ:=ζ f213r5 (.frz 1 f213b4)
def f213:AQ:=f213b6
theorem hf213:zH Tryz.prog 213=some ⟨17,f213.erase,[(RX.t 2)]⟩:=by kernel_rfl
theorem okf213:f213.ok=true:=by kernel_rfl
def Υ213:=PLift.up (ξ (uu f213.eq_1)<|ξ (vv f213r3.eq_1)<|ξ (uu f213b4.eq_1)<|ξ (vv f213r5.eq_1)<|ξ (uu f213b6.eq_1)<|ξ (vv f213r1.eq_1)<|uu f213b2.eq_1)
theorem Ψ213:type_of% Υ213.1:=Υ213.1
def f214r1:LA:=[Γ 11 0 1,ω 12 2 11,Θ 13 202 12,η (.bin 14 .add (.v (.k (.c (.str [102,105,101,108,100,32])))) (.t 13)),η (.bin 15 .add (.t 14) (.v (.k (.c (.str [32,105,115,32]))))),θ 16 3,vX 17 .add 15 16,η (.bin 18 .add (.t 17) (.v (.k (.c (.str [32,59]))))),θ 2 18]
def f214b2:AQ:=ζ f214r1 .ret
def f214r3:LA:=[Γ 6 2 1,ψ 7 1 6,Θ 8 217 7,θ 5 8,Δ 9 5 0,Δ 10 5 1,θ 3 9,θ 4 10]
def f214b4:AQ:=ζ f214r3 f214b2
def f214r5:LA:=[xB 1 167 0,η (.mov 2 (.v (.k (.c (.str [])))))]
def f214b6:AQ:=ζ f214r5 (.frz 1 f214b4)
def f214:AQ:=f214b6
theorem hf214:zH Tryz.prog 214=some ⟨19,f214.erase,[(RX.t 2)]⟩:=by kernel_rfl
theorem okf214:f214.ok=true:=by kernel_rfl
def Υ214:=PLift.up (ξ (uu f214.eq_1)<|ξ (vv f214r3.eq_1)<|ξ (uu f214b4.eq_1)<|ξ (vv f214r5.eq_1)<|ξ (uu f214b6.eq_1)<|ξ (vv f214r1.eq_1)<|uu f214b2.eq_1)
theorem Ψ214:type_of% Υ214.1:=Υ214.1
def f216r1:LA:=[θ 4 0,Γ 5 2 1,ψ 6 1 5,vX 7 .neq 4 6,θ 3 7]
def f216b2:AQ:=ζ f216r1 .ret
def f216r3:LA:=[η (.mov 3 (χ false))]
def f216b4:AQ:=ζ f216r3 f216b2
def f216:AQ:=f216b4
theorem hf216:zH Tryz.prog 216=some ⟨8,f216.erase,[(RX.t 3)]⟩:=by kernel_rfl
theorem okf216:f216.ok=true:=by kernel_rfl
def Υ216:=PLift.up (ξ (uu f216.eq_1)<|ξ (vv f216r1.eq_1)<|ξ (uu f216b2.eq_1)<|ξ (vv f216r3.eq_1)<|uu f216b4.eq_1)
theorem Ψ216:type_of% Υ216.1:=Υ216.1
def f221r1:LA:=[Γ 3 0 1,Γ 4 0 3,ψ 5 1 4,Γ 6 0 1,Γ 7 1 6,ψ 8 1 7,Γ 9 2 1,Γ 10 0 9,ψ 11 1 10,Γ 12 2 1,Γ 13 1 12,ψ 14 1 13,η (.build 15 [(.int .i64 0),(.str []),(.str []),(.str []),(.str []),(.str []),(.int .i64 0),(.int .i64 0)] [(0,(1,(φ 3))),(1,(1,(.t 5))),(2,(1,(.t 8))),(3,(1,(.t 11))),(4,(1,(.t 14)))]),Φ 8 2 15]
def f221b2:AQ:=ζ f221r1 .ret
def f221r3:LA:=[xB 1 169 0,η (.alloc 2 46 [(.int .i64 0),(.str []),(.str []),(.str []),(.str []),(.str []),(.int .i64 0),(.int .i64 0)])]
def f221b4:AQ:=ζ f221r3 (.frz 1 f221b2)
def f221:AQ:=f221b4
theorem hf221:zH Tryz.prog 221=some ⟨16,f221.erase,[(RX.cell 2 8 true)]⟩:=by kernel_rfl
theorem okf221:f221.ok=true:=by kernel_rfl
def Υ221:=PLift.up (ξ (uu f221.eq_1)<|ξ (vv f221r1.eq_1)<|ξ (uu f221b2.eq_1)<|ξ (vv f221r3.eq_1)<|uu f221b4.eq_1)
theorem Ψ221:type_of% Υ221.1:=Υ221.1
def f223r1:LA:=[Γ 3 0 1,ω 4 2 3,Θ 5 201 4,θ 6 5,kI 6 (.faddr 7 2 (.t 1)),kI 6 (.load 8 2 true (.t 7)),kI 6 (.call (some 9) 201 [(.t 8)]),η (.pick 10 (.t 6) (.t 9) (χ false)),θ 2 10]
def f223b2:AQ:=ζ f223r1 .ret
def f223r3:LA:=[xB 1 169 0,η (.mov 2 (χ false))]
def f223b4:AQ:=ζ f223r3 (.frz 1 f223b2)
def f223:AQ:=f223b4
theorem hf223:zH Tryz.prog 223=some ⟨11,f223.erase,[(RX.t 2)]⟩:=by kernel_rfl
theorem okf223:f223.ok=true:=by kernel_rfl
def Υ223:=PLift.up (ξ (uu f223.eq_1)<|ξ (vv f223r1.eq_1)<|ξ (uu f223b2.eq_1)<|ξ (vv f223r3.eq_1)<|uu f223b4.eq_1)
theorem Ψ223:type_of% Υ223.1:=Υ223.1
def f224r1:LA:=[Γ 3 0 1,ω 4 2 3,Θ 5 202 4,η (.bin 6 .add (.v (.k (.c (.str [102,105,101,108,100,32])))) (.t 5)),η (.bin 7 .add (.t 6) (.v (.k (.c (.str [32,115,97,109,101,32]))))),Γ 8 2 1,ω 9 2 8,Θ 10 202 9,vX 11 .add 7 10,η (.bin 12 .add (.t 11) (.v (.k (.c (.str [32,59]))))),θ 2 12]
def f224b2:AQ:=.seq (.draw f224r1 [[],[0],[1],[2],[3],[],[5],[6,2],[4,7],[8],[9,7,0,1,2,3,4,5,6,7,8,9]]) .ret
def f224r3:LA:=[xB 1 169 0,η (.mov 2 (.v (.k (.c (.str [])))))]
def f224b4:AQ:=ζ f224r3 (.frz 1 f224b2)
def f224:AQ:=f224b4
theorem hf224:zH Tryz.prog 224=some ⟨13,f224.erase,[(RX.t 2)]⟩:=by kernel_rfl
theorem okf224:f224.ok=true:=by kernel_rfl
def Υ224:=PLift.up (ξ (uu f224.eq_1)<|ξ (vv f224r1.eq_1)<|ξ (uu f224b2.eq_1)<|ξ (vv f224r3.eq_1)<|uu f224b4.eq_1)
theorem Ψ224:type_of% Υ224.1:=Υ224.1
def f225r1:LA:=[θ 4 0,ψ 5 1 1,η (.iaddr 6 1 (.t 5) (φ 0)),ψ 7 1 6,vX 8 .neq 4 7,θ 3 8]
def f225b2:AQ:=ζ f225r1 .ret
def f225r3:LA:=[η (.mov 3 (χ false))]
def f225b4:AQ:=ζ f225r3 f225b2
def f225:AQ:=f225b4
theorem hf225:zH Tryz.prog 225=some ⟨9,f225.erase,[(RX.t 3)]⟩:=by kernel_rfl
theorem okf225:f225.ok=true:=by kernel_rfl
def Υ225:=PLift.up (ξ (uu f225.eq_1)<|ξ (vv f225r1.eq_1)<|ξ (uu f225b2.eq_1)<|ξ (vv f225r3.eq_1)<|uu f225b4.eq_1)
theorem Ψ225:type_of% Υ225.1:=Υ225.1
def f226r1:LA:=[ω 18 8 3,Φ 8 2 18]
def f226b2:AQ:=ζ f226r1 .ret
def f226r3:LA:=[Γ 17 0 3,η (.store 1 (.t 17) (φ 4))]
def f226b4:AQ:=.cond (.t 16) (.region f226r3) .skip
def f226r5:LA:=[Γ 15 4 1,ψ 16 1 15]
def f226b6:AQ:=ζ f226r5 f226b4
def f226b7:AQ:=.seq f226b6 f226b2
def f226r8:LA:=[Γ 4 0 1,Γ 5 0 4,ψ 6 1 5,Γ 7 0 1,Γ 8 1 7,ψ 9 1 8,Γ 10 2 1,ψ 11 1 10,Γ 12 3 1,ψ 13 1 12,η (.build 14 [(.int .i64 0),(.str []),(.str []),(.str []),(.str []),(.str []),(.int .i64 0),(.int .i64 0)] [(0,(1,(φ 2))),(1,(1,(.t 6))),(2,(1,(.t 9))),(6,(1,(.t 11))),(7,(1,(.t 13)))]),η (.alloc 3 46 [(.int .i64 0),(.str []),(.str []),(.str []),(.str []),(.str []),(.int .i64 0),(.int .i64 0)]),Φ 8 3 14]
def f226b9:AQ:=ζ f226r8 f226b7
def f226r10:LA:=[xB 1 171 0,η (.alloc 2 46 [(.int .i64 0),(.str []),(.str []),(.str []),(.str []),(.str []),(.int .i64 0),(.int .i64 0)])]
def f226b11:AQ:=ζ f226r10 (.frz 1 f226b9)
def f226:AQ:=f226b11
theorem hf226:zH Tryz.prog 226=some ⟨19,f226.erase,[(RX.cell 2 8 true)]⟩:=by kernel_rfl
theorem okf226:f226.ok=true:=by kernel_rfl
def Υ226:=PLift.up (ξ (uu f226.eq_1)<|ξ (vv f226r1.eq_1)<|ξ (uu f226b2.eq_1)<|ξ (vv f226r3.eq_1)<|ξ (uu f226b4.eq_1)<|ξ (vv f226r5.eq_1)<|ξ (uu f226b6.eq_1)<|ξ (uu f226b7.eq_1)<|ξ (vv f226r8.eq_1)<|ξ (uu f226b9.eq_1)<|ξ (vv f226r10.eq_1)<|uu f226b11.eq_1)
theorem Ψ226:type_of% Υ226.1:=Υ226.1
def f227r1:LA:=[θ 53 6,θ 54 53,kI 54 (.faddr 55 4 (.t 2)),kI 54 (.load 56 1 false (.t 55)),kI 54 (.un 57 .not (.t 56)),kI 54 (.mov 58 (.t 57)),zAA 58 (.mov 59 (.t 7)),zAA 58 (.faddr 60 2 (.t 2)),zAA 58 (.load 61 1 false (.t 60)),zAA 58 (.bin 62 .geq (.t 59) (.t 61)),zAA 58 (.mov 63 (.t 62)),kI 63 (.mov 64 (.t 7)),kI 63 (.faddr 65 3 (.t 2)),kI 63 (.load 66 1 false (.t 65)),kI 63 (.bin 67 .leq (.t 64) (.t 66)),zAA 58 (.pick 68 (.t 63) (.t 67) (χ false)),kI 54 (.pick 69 (.t 58) (χ true) (.t 68)),η (.pick 70 (.t 54) (.t 69) (χ false)),θ 4 70]
def f227b2:AQ:=ζ f227r1 .ret
def f227r3:LA:=[η (.bin 52 .add (.t 21) (φ 1)),θ 21 52]
def f227r4:LA:=[θ 49 7,θ 50 10,vX 51 .add 49 50,θ 7 51]
def f227r5:LA:=[η (.mov 4 (χ false))]
def f227b6:AQ:=ζ f227r5 .ret
def f227b7:AQ:=.cond (.t 48) f227b6 .skip
def f227r8:LA:=[θ 30 11,η (.un 31 .not (.t 30)),θ 32 31,zAA 32 (.faddr 33 4 (.t 2)),zAA 32 (.load 34 1 false (.t 33)),zAA 32 (.un 35 .not (.t 34)),zAA 32 (.mov 36 (.t 35)),kI 36 (.mov 37 (.t 10)),kI 36 (.faddr 38 2 (.t 2)),kI 36 (.load 39 1 false (.t 38)),kI 36 (.bin 40 .lss (.t 37) (.t 39)),kI 36 (.mov 41 (.t 40)),zAA 41 (.mov 42 (.t 10)),zAA 41 (.faddr 43 3 (.t 2)),zAA 41 (.load 44 1 false (.t 43)),zAA 41 (.bin 45 .gtr (.t 42) (.t 44)),kI 36 (.pick 46 (.t 41) (χ true) (.t 45)),zAA 32 (.pick 47 (.t 36) (.t 46) (χ false)),η (.pick 48 (.t 32) (χ true) (.t 47))]
def f227b9:AQ:=ζ f227r8 f227b7
def f227b10:AQ:=.seq f227b9 (.region f227r4)
def f227r11:LA:=[θ 26 9,Θ 27 230 26,θ 25 27,Δ 28 25 0,Δ 29 25 1,θ 10 28,θ 11 29]
def f227b12:AQ:=ζ f227r11 f227b10
def f227r13:LA:=[Ψ 23 1 19 21,ψ 24 1 23,θ 9 24]
def f227b14:AQ:=ζ f227r13 f227b12
def f227b15:AQ:=.block 1 f227b14
def f227b16:AQ:=.seq f227b15 (.region f227r3)
def f227b17:AQ:=.cond (.t 22) .skip (.exit 0)
def f227b18:AQ:=.seq f227b17 f227b16
def f227r19:LA:=[vX 22 .lss 21 20]
def f227b20:AQ:=ζ f227r19 f227b18
def f227l21:AQ:=.loop [2,6,7,19,20,21] [2,16,17000,17001,17002] f227b20
def f227b22:AQ:=.block 0 f227l21
def f227r23:LA:=[θ 19 5,Ω 20 19,η (.mov 21 (φ 0))]
def f227b24:AQ:=ζ f227r23 f227b22
def f227b25:AQ:=.seq f227b24 f227b2
def f227r26:LA:=[η (.mov 7 (φ 0))]
def f227b27:AQ:=ζ f227r26 f227b25
def f227r28:LA:=[θ 13 1,Γ 14 0 2,ω 15 2 14,Ξ 16 215 13 15,θ 12 16,Δ 17 12 0,Δ 18 12 1,θ 5 17,θ 6 18]
def f227b29:AQ:=ζ f227r28 f227b27
def f227r30:LA:=[xB 2 171 0,η (.mov 4 (χ false))]
def f227b31:AQ:=ζ f227r30 (.frz 2 f227b29)
def f227:AQ:=f227b31
theorem hf227:zH Tryz.prog 227=some ⟨71,f227.erase,[(RX.t 4)]⟩:=by kernel_rfl
theorem okf227:f227.ok=true:=by kernel_rfl
def Υ227:=PLift.up (ξ (uu f227.eq_1)<|ξ (vv f227r28.eq_1)<|ξ (uu f227b29.eq_1)<|ξ (vv f227r30.eq_1)<|ξ (uu f227b31.eq_1)<|ξ (uu f227b22.eq_1)<|ξ (vv f227r23.eq_1)<|ξ (uu f227b24.eq_1)<|ξ (uu f227b25.eq_1)<|ξ (vv f227r26.eq_1)<|ξ (uu f227b27.eq_1)<|ξ (vv f227r3.eq_1)<|ξ (vv f227r11.eq_1)<|ξ (uu f227b12.eq_1)<|ξ (vv f227r13.eq_1)<|ξ (uu f227b14.eq_1)<|ξ (uu f227b15.eq_1)<|ξ (uu f227b16.eq_1)<|ξ (uu f227b17.eq_1)<|ξ (uu f227b18.eq_1)<|ξ (vv f227r19.eq_1)<|ξ (uu f227b20.eq_1)<|ξ (vv f227r4.eq_1)<|ξ (vv f227r5.eq_1)<|ξ (uu f227b6.eq_1)<|ξ (uu f227b7.eq_1)<|ξ (vv f227r8.eq_1)<|ξ (uu f227b9.eq_1)<|ξ (uu f227b10.eq_1)<|ξ (vv f227r1.eq_1)<|uu f227b2.eq_1)
theorem Ψ227:type_of% Υ227.1:=Υ227.1
def f228r1:LA:=[Γ 3 0 1,ω 4 2 3,Θ 5 201 4,θ 6 5,kI 6 (.faddr 7 2 (.t 1)),kI 6 (.load 8 1 false (.t 7)),kI 6 (.bin 9 .geq (.t 8) (φ 0)),η (.pick 10 (.t 6) (.t 9) (χ false)),θ 11 10,kI 11 (.faddr 12 2 (.t 1)),kI 11 (.load 13 1 false (.t 12)),kI 11 (.faddr 14 3 (.t 1)),kI 11 (.load 15 1 false (.t 14)),kI 11 (.bin 16 .leq (.t 13) (.t 15)),η (.pick 17 (.t 11) (.t 16) (χ false)),θ 18 17,kI 18 (.faddr 19 3 (.t 1)),kI 18 (.load 20 1 false (.t 19)),kI 18 (.bin 21 .leq (.t 20) (φ 1099511627776)),η (.pick 22 (.t 18) (.t 21) (χ false)),θ 2 22]
def f228b2:AQ:=ζ f228r1 .ret
def f228r3:LA:=[xB 1 171 0,η (.mov 2 (χ false))]
def f228b4:AQ:=ζ f228r3 (.frz 1 f228b2)
def f228:AQ:=f228b4
theorem hf228:zH Tryz.prog 228=some ⟨23,f228.erase,[(RX.t 2)]⟩:=by kernel_rfl
theorem okf228:f228.ok=true:=by kernel_rfl
def Υ228:=PLift.up (ξ (uu f228.eq_1)<|ξ (vv f228r1.eq_1)<|ξ (uu f228b2.eq_1)<|ξ (vv f228r3.eq_1)<|uu f228b4.eq_1)
theorem Ψ228:type_of% Υ228.1:=Υ228.1
def f230r1:LA:=[θ 45 4,θ 2 45,η (.mov 3 (χ true))]
def f230b2:AQ:=ζ f230r1 .ret
def f230r3:LA:=[η (.mov 2 (φ 0)),η (.mov 3 (χ false))]
def f230b4:AQ:=ζ f230r3 .ret
def f230b5:AQ:=.cond (.t 44) f230b4 .skip
def f230r6:LA:=[θ 43 4,η (.bin 44 .gtr (.t 43) (φ 1099511627776))]
def f230b7:AQ:=ζ f230r6 f230b5
def f230b8:AQ:=.seq f230b7 f230b2
def f230r9:LA:=[η (.bin 42 .add (.t 31) (φ 1)),θ 31 42]
def f230r10:LA:=[θ 34 4,η (.bin 35 .mul (φ 10) (.t 34)),θ 36 0,θ 37 5,η (.sidx 38 (.t 36) (.t 37)),η (.bin 39 .sub (.t 38) (.v (.k (.c (.int .u8 48))))),η (.conv 40 .i64 (.t 39)),vX 41 .add 35 40,θ 4 41]
def f230r11:LA:=[θ 33 31,θ 5 33]
def f230b12:AQ:=ζ f230r11 (.region f230r10)
def f230b13:AQ:=.block 1 f230b12
def f230b14:AQ:=.seq f230b13 (.region f230r9)
def f230b15:AQ:=.cond (.t 32) .skip (.exit 0)
def f230b16:AQ:=.seq f230b15 f230b14
def f230r17:LA:=[vX 32 .lss 31 30]
def f230b18:AQ:=ζ f230r17 f230b16
def f230l19:AQ:=.loop [0,4,30,31] [] f230b18
def f230b20:AQ:=.block 0 f230l19
def f230r21:LA:=[θ 29 0,η (.lenS 30 (.t 29)),η (.mov 31 (φ 0))]
def f230b22:AQ:=ζ f230r21 f230b20
def f230b23:AQ:=.seq f230b22 f230b8
def f230r24:LA:=[η (.mov 4 (φ 0))]
def f230b25:AQ:=ζ f230r24 f230b23
def f230r26:LA:=[η (.mov 2 (φ 0)),η (.mov 3 (χ false))]
def f230b27:AQ:=ζ f230r26 .ret
def f230b28:AQ:=.cond (.t 28) f230b27 .skip
def f230r29:LA:=[θ 6 0,η (.bin 7 .eql (.t 6) (.v (.k (.c (.str []))))),θ 8 7,zAA 8 (.mov 9 (.t 0)),zAA 8 (.call (some 10) 126 [(.t 9),(.v (.k (.c (.fn 160 []))))]),zAA 8 (.mov 11 (.t 0)),zAA 8 (.lenS 12 (.t 11)),zAA 8 (.bin 13 .neq (.t 10) (.t 12)),η (.pick 14 (.t 8) (χ true) (.t 13)),θ 15 14,zAA 15 (.mov 16 (.t 0)),zAA 15 (.sidx 17 (.t 16) (φ 0)),zAA 15 (.bin 18 .eql (.t 17) (.v (.k (.c (.int .u8 48))))),zAA 15 (.mov 19 (.t 18)),kI 19 (.mov 20 (.t 0)),kI 19 (.bin 21 .neq (.t 20) (.v (.k (.c (.str [48]))))),zAA 15 (.pick 22 (.t 19) (.t 21) (χ false)),η (.pick 23 (.t 15) (χ true) (.t 22)),θ 24 23,zAA 24 (.mov 25 (.t 0)),zAA 24 (.lenS 26 (.t 25)),zAA 24 (.bin 27 .gtr (.t 26) (φ 13)),η (.pick 28 (.t 24) (χ true) (.t 27))]
def f230b30:AQ:=ζ f230r29 f230b28
def f230b31:AQ:=.seq f230b30 f230b25
def f230r32:LA:=[η (.mov 2 (φ 0)),η (.mov 3 (χ false))]
def f230b33:AQ:=ζ f230r32 f230b31
def f230:AQ:=f230b33
theorem hf230:zH Tryz.prog 230=some ⟨46,f230.erase,[(RX.t 2),(RX.t 3)]⟩:=by kernel_rfl
theorem okf230:f230.ok=true:=by kernel_rfl
def Υ230:=PLift.up (ξ (uu f230.eq_1)<|ξ (vv f230r26.eq_1)<|ξ (uu f230b27.eq_1)<|ξ (uu f230b28.eq_1)<|ξ (vv f230r29.eq_1)<|ξ (uu f230b30.eq_1)<|ξ (uu f230b31.eq_1)<|ξ (vv f230r32.eq_1)<|ξ (uu f230b33.eq_1)<|ξ (uu f230b20.eq_1)<|ξ (vv f230r21.eq_1)<|ξ (uu f230b22.eq_1)<|ξ (uu f230b23.eq_1)<|ξ (vv f230r24.eq_1)<|ξ (uu f230b25.eq_1)<|ξ (vv f230r9.eq_1)<|ξ (vv f230r10.eq_1)<|ξ (vv f230r11.eq_1)<|ξ (uu f230b12.eq_1)<|ξ (uu f230b13.eq_1)<|ξ (uu f230b14.eq_1)<|ξ (uu f230b15.eq_1)<|ξ (uu f230b16.eq_1)<|ξ (vv f230r17.eq_1)<|ξ (uu f230b18.eq_1)<|ξ (vv f230r3.eq_1)<|ξ (uu f230b4.eq_1)<|ξ (uu f230b5.eq_1)<|ξ (vv f230r6.eq_1)<|ξ (uu f230b7.eq_1)<|ξ (uu f230b8.eq_1)<|ξ (vv f230r1.eq_1)<|uu f230b2.eq_1)
theorem Ψ230:type_of% Υ230.1:=Υ230.1
def f217r1:LA:=[θ 14 0,Θ 15 219 14,θ 2 15,η (.mov 3 (χ true))]
def f217b2:AQ:=ζ f217r1 .ret
def f217r3:LA:=[η (.mov 2 (.v (.k (.c (.str []))))),η (.mov 3 (χ false))]
def f217b4:AQ:=ζ f217r3 .ret
def f217b5:AQ:=.cond (.t 13) f217b4 .skip
def f217r6:LA:=[θ 4 0,η (.lenS 5 (.t 4)),η (.bin 6 .gtr (.t 5) (φ 400)),θ 7 6,zAA 7 (.mov 8 (.t 0)),zAA 7 (.call (some 9) 126 [(.t 8),(.v (.k (.c (.fn 218 []))))]),zAA 7 (.mov 10 (.t 0)),zAA 7 (.lenS 11 (.t 10)),zAA 7 (.bin 12 .neq (.t 9) (.t 11)),η (.pick 13 (.t 7) (χ true) (.t 12))]
def f217b7:AQ:=ζ f217r6 f217b5
def f217b8:AQ:=.seq f217b7 f217b2
def f217r9:LA:=[η (.mov 2 (.v (.k (.c (.str []))))),η (.mov 3 (χ false))]
def f217b10:AQ:=ζ f217r9 f217b8
def f217:AQ:=f217b10
theorem hf217:zH Tryz.prog 217=some ⟨16,f217.erase,[(RX.t 2),(RX.t 3)]⟩:=by kernel_rfl
theorem okf217:f217.ok=true:=by kernel_rfl
def Υ217:=PLift.up (ξ (uu f217.eq_1)<|ξ (vv f217r3.eq_1)<|ξ (uu f217b4.eq_1)<|ξ (uu f217b5.eq_1)<|ξ (vv f217r6.eq_1)<|ξ (uu f217b7.eq_1)<|ξ (uu f217b8.eq_1)<|ξ (vv f217r9.eq_1)<|ξ (uu f217b10.eq_1)<|ξ (vv f217r1.eq_1)<|uu f217b2.eq_1)
theorem Ψ217:type_of% Υ217.1:=Υ217.1
def f218r1:LA:=[θ 3 0,η (.bin 4 .geq (.t 3) (.v (.k (.c (.int .u8 32))))),θ 5 4,kI 5 (.mov 6 (.t 0)),kI 5 (.bin 7 .leq (.t 6) (.v (.k (.c (.int .u8 126))))),η (.pick 8 (.t 5) (.t 7) (χ false)),θ 2 8]
def f218b2:AQ:=ζ f218r1 .ret
def f218r3:LA:=[η (.mov 2 (χ false))]
def f218b4:AQ:=ζ f218r3 f218b2
def f218:AQ:=f218b4
theorem hf218:zH Tryz.prog 218=some ⟨9,f218.erase,[(RX.t 2)]⟩:=by kernel_rfl
theorem okf218:f218.ok=true:=by kernel_rfl
def Υ218:=PLift.up (ξ (uu f218.eq_1)<|ξ (vv f218r1.eq_1)<|ξ (uu f218b2.eq_1)<|ξ (vv f218r3.eq_1)<|uu f218b4.eq_1)
theorem Ψ218:type_of% Υ218.1:=Υ218.1
def f15r1:LA:=[θ 24 5,θ 4 24]
def f15b2:AQ:=ζ f15r1 .ret
def f15r3:LA:=[η (.bin 23 .add (.t 10) (φ 1)),θ 10 23]
def f15r4:LA:=[θ 19 5,θ 20 6,η (.bslice 21 3 1 [(.int .i64 0)] 1 [(0,(.t 20))]),η (.append 22 3 1 8 (.t 19) (.t 21)),θ 5 22]
def f15b5:AQ:=.cond (.t 18) (.region f15r4) .skip
def f15r6:LA:=[ω 15 8 7,θ 16 1,Ξ 17 39 15 16,η (.un 18 .not (.t 17))]
def f15b7:AQ:=ζ f15r6 f15b5
def f15r8:LA:=[θ 12 10,Ψ 13 8 8 10,ω 14 8 13,η (.alloc 7 46 [(.int .i64 0),(.str []),(.str []),(.str []),(.str []),(.str []),(.int .i64 0),(.int .i64 0)]),θ 6 12,Φ 8 7 14]
def f15b9:AQ:=ζ f15r8 (.frz 7 f15b7)
def f15b10:AQ:=.block 1 f15b9
def f15b11:AQ:=.seq f15b10 (.region f15r3)
def f15b12:AQ:=.cond (.t 11) .skip (.exit 0)
def f15b13:AQ:=.seq f15b12 f15b11
def f15r14:LA:=[vX 11 .lss 10 9]
def f15b15:AQ:=ζ f15r14 f15b13
def f15l16:AQ:=.loop [1,5,8,9,10] [5,22] f15b15
def f15b17:AQ:=.block 0 f15l16
def f15r18:LA:=[θ 8 0,Ω 9 8,η (.mov 10 (φ 0))]
def f15b19:AQ:=ζ f15r18 f15b17
def f15b20:AQ:=.seq f15b19 f15b2
def f15r21:LA:=[η (.nilL 5 3 1)]
def f15b22:AQ:=ζ f15r21 f15b20
def f15r23:LA:=[η (.nilL 4 3 1)]
def f15b24:AQ:=ζ f15r23 f15b22
def f15:AQ:=f15b24
theorem hf15:zH Tryz.prog 15=some ⟨25,f15.erase,[(RX.t 4)]⟩:=by kernel_rfl
theorem okf15:f15.ok=true:=by kernel_rfl
def Υ15:=PLift.up (ξ (uu f15.eq_1)<|ξ (uu f15b17.eq_1)<|ξ (vv f15r18.eq_1)<|ξ (uu f15b19.eq_1)<|ξ (uu f15b20.eq_1)<|ξ (vv f15r21.eq_1)<|ξ (uu f15b22.eq_1)<|ξ (vv f15r23.eq_1)<|ξ (uu f15b24.eq_1)<|ξ (vv f15r3.eq_1)<|ξ (vv f15r6.eq_1)<|ξ (uu f15b7.eq_1)<|ξ (vv f15r8.eq_1)<|ξ (uu f15b9.eq_1)<|ξ (uu f15b10.eq_1)<|ξ (uu f15b11.eq_1)<|ξ (uu f15b12.eq_1)<|ξ (uu f15b13.eq_1)<|ξ (vv f15r14.eq_1)<|ξ (uu f15b15.eq_1)<|ξ (vv f15r4.eq_1)<|ξ (uu f15b5.eq_1)<|ξ (vv f15r1.eq_1)<|uu f15b2.eq_1)
theorem Ψ15:type_of% Υ15.1:=Υ15.1
def f16r1:LA:=[θ 91 5,θ 4 91]
def f16b2:AQ:=ζ f16r1 .ret
def f16r3:LA:=[η (.bin 90 .add (.t 23) (φ 1)),θ 23 90]
def f16r4:LA:=[η (.bin 89 .add (.t 31) (φ 1)),θ 31 89]
def f16r5:LA:=[θ 83 5,θ 84 6,θ 85 8,η (.build 86 [(.int .i64 0),(.int .i64 0)] [(0,(1,(.t 84))),(1,(1,(.t 85)))]),η (.bslice 87 64 2 [(.int .i64 0),(.int .i64 0)] 1 [(0,(.t 86))]),η (.append 88 64 2 16 (.t 83) (.t 87)),θ 5 88]
def f16b6:AQ:=.cond (.t 82) (.region f16r5) .skip
def f16r7:LA:=[θ 76 10,θ 77 76,kI 77 (.mov 78 (.t 11)),kI 77 (.mov 79 (.t 78)),zAA 79 (.mov 80 (.t 12)),kI 77 (.pick 81 (.t 79) (χ true) (.t 80)),η (.pick 82 (.t 77) (.t 81) (χ false))]
def f16b8:AQ:=ζ f16r7 f16b6
def f16r9:LA:=[Γ 60 0 2,ψ 61 1 60,η (.bin 62 .eql (.t 61) (φ 3)),θ 63 62,kI 63 (.faddr 64 0 (.t 7)),kI 63 (.load 65 1 false (.t 64)),kI 63 (.faddr 66 3 (.t 2)),kI 63 (.load 67 1 false (.t 66)),kI 63 (.bin 68 .eql (.t 65) (.t 67)),η (.pick 69 (.t 63) (.t 68) (χ false)),θ 70 69,kI 70 (.mov 71 (.t 9)),kI 70 (.faddr 72 4 (.t 2)),kI 70 (.load 73 1 false (.t 72)),kI 70 (.bin 74 .eql (.t 71) (.t 73)),η (.pick 75 (.t 70) (.t 74) (χ false)),θ 12 75]
def f16b10:AQ:=ζ f16r9 f16b8
def f16r11:LA:=[Γ 49 0 7,ψ 50 1 49,Γ 51 1 2,ψ 52 1 51,vX 53 .eql 50 52,θ 54 53,kI 54 (.mov 55 (.t 9)),kI 54 (.faddr 56 2 (.t 2)),kI 54 (.load 57 1 false (.t 56)),kI 54 (.bin 58 .eql (.t 55) (.t 57)),η (.pick 59 (.t 54) (.t 58) (χ false)),θ 11 59]
def f16b12:AQ:=ζ f16r11 f16b10
def f16r13:LA:=[Γ 36 1 7,ψ 37 1 36,θ 38 9,Ξ 39 40 37 38,θ 40 8,vX 41 .eql 39 40,θ 42 41,kI 42 (.mov 43 (.t 8)),kI 42 (.faddr 44 2 (.t 7)),kI 42 (.load 45 1 false (.t 44)),kI 42 (.len 46 (.t 45)),kI 42 (.bin 47 .lss (.t 43) (.t 46)),η (.pick 48 (.t 42) (.t 47) (χ false)),θ 10 48]
def f16b14:AQ:=ζ f16r13 f16b12
def f16r15:LA:=[θ 33 31,Ψ 34 1 29 31,ψ 35 1 34,θ 8 33,θ 9 35]
def f16b16:AQ:=ζ f16r15 f16b14
def f16b17:AQ:=.block 3 f16b16
def f16b18:AQ:=.seq f16b17 (.region f16r4)
def f16b19:AQ:=.cond (.t 32) .skip (.exit 2)
def f16b20:AQ:=.seq f16b19 f16b18
def f16r21:LA:=[vX 32 .lss 31 30]
def f16b22:AQ:=ζ f16r21 f16b20
def f16l23:AQ:=.loop [2,5,6,7,21,22,23,29,30,31] [2,5,7,88] f16b22
def f16b24:AQ:=.block 2 f16l23
def f16r25:LA:=[Γ 28 1 7,ψ 29 1 28,Ω 30 29,η (.mov 31 (φ 0))]
def f16b26:AQ:=ζ f16r25 f16b24
def f16r27:LA:=[θ 25 23,Ψ 26 3 21 23,ω 27 3 26,η (.alloc 7 53 [(.str []),(.list 0 (some true) []),(.list 0 (some true) [])]),θ 6 25,Φ 3 7 27]
def f16b28:AQ:=ζ f16r27 (.frz 7 f16b26)
def f16b29:AQ:=.block 1 f16b28
def f16b30:AQ:=.seq f16b29 (.region f16r3)
def f16b31:AQ:=.cond (.t 24) .skip (.exit 0)
def f16b32:AQ:=.seq f16b31 f16b30
def f16r33:LA:=[vX 24 .lss 23 22]
def f16b34:AQ:=ζ f16r33 f16b32
def f16l35:AQ:=.loop [2,5,21,22,23] [2,5,88] f16b34
def f16b36:AQ:=.block 0 f16l35
def f16r37:LA:=[θ 21 1,Ω 22 21,η (.mov 23 (φ 0))]
def f16b38:AQ:=ζ f16r37 f16b36
def f16b39:AQ:=.seq f16b38 f16b2
def f16r40:LA:=[η (.nilL 4 64 2)]
def f16b41:AQ:=ζ f16r40 .ret
def f16b42:AQ:=.cond (.t 20) f16b41 .skip
def f16r43:LA:=[Γ 13 0 2,ψ 14 1 13,η (.bin 15 .leq (.t 14) (φ 0)),θ 16 15,zAA 16 (.faddr 17 0 (.t 2)),zAA 16 (.load 18 1 false (.t 17)),zAA 16 (.bin 19 .geq (.t 18) (φ 5)),η (.pick 20 (.t 16) (χ true) (.t 19))]
def f16b44:AQ:=ζ f16r43 f16b42
def f16b45:AQ:=.seq f16b44 f16b39
def f16r46:LA:=[η (.nilL 5 64 2)]
def f16b47:AQ:=ζ f16r46 f16b45
def f16r48:LA:=[xB 2 46 0,η (.nilL 4 64 2)]
def f16b49:AQ:=ζ f16r48 (.frz 2 f16b47)
def f16:AQ:=f16b49
theorem hf16:zH Tryz.prog 16=some ⟨92,f16.erase,[(RX.t 4)]⟩:=by kernel_rfl
theorem okf16:f16.ok=true:=by kernel_rfl
def Υ16:=PLift.up (ξ (uu f16.eq_1)<|ξ (vv f16r40.eq_1)<|ξ (uu f16b41.eq_1)<|ξ (uu f16b42.eq_1)<|ξ (vv f16r43.eq_1)<|ξ (uu f16b44.eq_1)<|ξ (uu f16b45.eq_1)<|ξ (vv f16r46.eq_1)<|ξ (uu f16b47.eq_1)<|ξ (vv f16r48.eq_1)<|ξ (uu f16b49.eq_1)<|ξ (uu f16b36.eq_1)<|ξ (vv f16r37.eq_1)<|ξ (uu f16b38.eq_1)<|ξ (uu f16b39.eq_1)<|ξ (vv f16r3.eq_1)<|ξ (uu f16b24.eq_1)<|ξ (vv f16r25.eq_1)<|ξ (uu f16b26.eq_1)<|ξ (vv f16r27.eq_1)<|ξ (uu f16b28.eq_1)<|ξ (uu f16b29.eq_1)<|ξ (uu f16b30.eq_1)<|ξ (uu f16b31.eq_1)<|ξ (uu f16b32.eq_1)<|ξ (vv f16r33.eq_1)<|ξ (uu f16b34.eq_1)<|ξ (vv f16r4.eq_1)<|ξ (vv f16r13.eq_1)<|ξ (uu f16b14.eq_1)<|ξ (vv f16r15.eq_1)<|ξ (uu f16b16.eq_1)<|ξ (uu f16b17.eq_1)<|ξ (uu f16b18.eq_1)<|ξ (uu f16b19.eq_1)<|ξ (uu f16b20.eq_1)<|ξ (vv f16r21.eq_1)<|ξ (uu f16b22.eq_1)<|ξ (vv f16r5.eq_1)<|ξ (uu f16b6.eq_1)<|ξ (vv f16r7.eq_1)<|ξ (uu f16b8.eq_1)<|ξ (vv f16r9.eq_1)<|ξ (uu f16b10.eq_1)<|ξ (vv f16r11.eq_1)<|ξ (uu f16b12.eq_1)<|ξ (vv f16r1.eq_1)<|uu f16b2.eq_1)
theorem Ψ16:type_of% Υ16.1:=Υ16.1
def f13r1:LA:=[θ 13 5,θ 14 6,θ 2 13,θ 3 14]
def f13b2:AQ:=ζ f13r1 .ret
def f13r3:LA:=[θ 8 0,Θ 9 37 8,θ 7 9,Δ 10 7 0,Δ 11 7 1,Δ 12 7 2,θ 4 10,θ 5 11,θ 6 12]
def f13b4:AQ:=ζ f13r3 f13b2
def f13r5:LA:=[η (.mov 2 (φ 0)),η (.mov 3 (φ 0))]
def f13b6:AQ:=ζ f13r5 f13b4
def f13:AQ:=f13b6
theorem hf13:zH Tryz.prog 13=some ⟨15,f13.erase,[(RX.t 2),(RX.t 3)]⟩:=by kernel_rfl
theorem okf13:f13.ok=true:=by kernel_rfl
def Υ13:=PLift.up (ξ (uu f13.eq_1)<|ξ (vv f13r3.eq_1)<|ξ (uu f13b4.eq_1)<|ξ (vv f13r5.eq_1)<|ξ (uu f13b6.eq_1)<|ξ (vv f13r1.eq_1)<|uu f13b2.eq_1)
theorem Ψ13:type_of% Υ13.1:=Υ13.1
def f14r1:LA:=[θ 25 0,θ 26 6,θ 27 1,η (.call (some 28) 38 [(.t 25),(.t 26),(.t 27)]),θ 4 28,η (.mov 5 (φ 0))]
def f14b2:AQ:=ζ f14r1 .ret
def f14r3:LA:=[η (.nilL 4 53 3),η (.mov 5 (φ 4))]
def f14b4:AQ:=ζ f14r3 .ret
def f14b5:AQ:=.cond (.t 24) f14b4 .skip
def f14r6:LA:=[θ 18 1,η (.bin 19 .lss (.t 18) (φ 0)),θ 20 19,zAA 20 (.mov 21 (.t 1)),zAA 20 (.mov 22 (.t 7)),zAA 20 (.bin 23 .geq (.t 21) (.t 22)),η (.pick 24 (.t 20) (χ true) (.t 23))]
def f14b7:AQ:=ζ f14r6 f14b5
def f14b8:AQ:=.seq f14b7 f14b2
def f14r9:LA:=[θ 17 8,η (.nilL 4 53 3),θ 5 17]
def f14b10:AQ:=ζ f14r9 .ret
def f14b11:AQ:=.cond (.t 16) f14b10 .skip
def f14r12:LA:=[θ 15 8,η (.bin 16 .neq (.t 15) (φ 0))]
def f14b13:AQ:=ζ f14r12 f14b11
def f14b14:AQ:=.seq f14b13 f14b8
def f14r15:LA:=[θ 10 0,Θ 11 37 10,θ 9 11,Δ 12 9 0,Δ 13 9 1,Δ 14 9 2,θ 6 12,θ 7 13,θ 8 14]
def f14b16:AQ:=ζ f14r15 f14b14
def f14r17:LA:=[η (.nilL 4 53 3),η (.mov 5 (φ 0))]
def f14b18:AQ:=ζ f14r17 f14b16
def f14:AQ:=f14b18
theorem hf14:zH Tryz.prog 14=some ⟨29,f14.erase,[(RX.t 4),(RX.t 5)]⟩:=by kernel_rfl
theorem okf14:f14.ok=true:=by kernel_rfl
def Υ14:=PLift.up (ξ (uu f14.eq_1)<|ξ (vv f14r15.eq_1)<|ξ (uu f14b16.eq_1)<|ξ (vv f14r17.eq_1)<|ξ (uu f14b18.eq_1)<|ξ (vv f14r3.eq_1)<|ξ (uu f14b4.eq_1)<|ξ (uu f14b5.eq_1)<|ξ (vv f14r6.eq_1)<|ξ (uu f14b7.eq_1)<|ξ (uu f14b8.eq_1)<|ξ (uu f14b11.eq_1)<|ξ (vv f14r12.eq_1)<|ξ (uu f14b13.eq_1)<|ξ (uu f14b14.eq_1)<|ξ (vv f14r1.eq_1)<|ξ (uu f14b2.eq_1)<|ξ (vv f14r9.eq_1)<|uu f14b10.eq_1)
theorem Ψ14:type_of% Υ14.1:=Υ14.1
def f37r1:LA:=[θ 56 9,θ 57 8,θ 2 56,θ 3 57,η (.mov 4 (φ 0))]
def f37b2:AQ:=ζ f37r1 .ret
def f37r3:LA:=[η (.bin 55 .add (.t 31) (φ 1)),θ 31 55]
def f37r4:LA:=[θ 48 9,θ 49 12,η (.bslice 50 3 1 [(.int .i64 0)] 1 [(0,(.t 49))]),η (.append 51 3 1 8 (.t 48) (.t 50)),θ 52 8,θ 53 12,vX 54 .mul 52 53,θ 9 51,θ 8 54]
def f37r5:LA:=[η (.nilL 2 3 1),η (.mov 3 (φ 0)),η (.mov 4 (φ 6))]
def f37b6:AQ:=ζ f37r5 .ret
def f37b7:AQ:=.cond (.t 47) f37b6 .skip
def f37r8:LA:=[θ 40 13,η (.bin 41 .neq (.t 40) (φ 0)),θ 42 41,zAA 42 (.mov 43 (.t 8)),zAA 42 (.mov 44 (.t 12)),zAA 42 (.bin 45 .mul (.t 43) (.t 44)),zAA 42 (.bin 46 .gtr (.t 45) (φ 4096)),η (.pick 47 (.t 42) (χ true) (.t 46))]
def f37b9:AQ:=ζ f37r8 f37b7
def f37b10:AQ:=.seq f37b9 (.region f37r4)
def f37r11:LA:=[ω 36 2 11,Θ 37 77 36,θ 35 37,Δ 38 35 0,Δ 39 35 1,θ 12 38,θ 13 39]
def f37b12:AQ:=ζ f37r11 f37b10
def f37r13:LA:=[Ψ 33 2 29 31,ω 34 2 33,η (.alloc 11 58 [(.str []),(.list 0 (some true) [])]),Φ 2 11 34]
def f37b14:AQ:=ζ f37r13 (.frz 11 f37b12)
def f37b15:AQ:=.block 3 f37b14
def f37b16:AQ:=.seq f37b15 (.region f37r3)
def f37b17:AQ:=.cond (.t 32) .skip (.exit 2)
def f37b18:AQ:=.seq f37b17 f37b16
def f37r19:LA:=[vX 32 .lss 31 30]
def f37b20:AQ:=ζ f37r19 f37b18
def f37l21:AQ:=.loop [8,9,29,30,31] [9,51] f37b20
def f37b22:AQ:=.block 2 f37l21
def f37r23:LA:=[θ 29 0,Ω 30 29,η (.mov 31 (φ 0))]
def f37b24:AQ:=ζ f37r23 f37b22
def f37b25:AQ:=.seq f37b24 f37b2
def f37r26:LA:=[η (.nilL 9 3 1)]
def f37b27:AQ:=ζ f37r26 f37b25
def f37r28:LA:=[η (.mov 8 (φ 1))]
def f37b29:AQ:=ζ f37r28 f37b27
def f37r30:LA:=[η (.bin 28 .add (.t 19) (φ 1)),θ 19 28]
def f37r31:LA:=[θ 27 7,η (.nilL 2 3 1),η (.mov 3 (φ 0)),θ 4 27]
def f37b32:AQ:=ζ f37r31 .ret
def f37b33:AQ:=.cond (.t 26) f37b32 .skip
def f37r34:LA:=[θ 25 7,η (.bin 26 .neq (.t 25) (φ 0))]
def f37b35:AQ:=ζ f37r34 f37b33
def f37r36:LA:=[ω 23 2 6,Θ 24 55 23,θ 7 24]
def f37b37:AQ:=ζ f37r36 f37b35
def f37r38:LA:=[Ψ 21 2 17 19,ω 22 2 21,η (.alloc 6 58 [(.str []),(.list 0 (some true) [])]),Φ 2 6 22]
def f37b39:AQ:=ζ f37r38 (.frz 6 f37b37)
def f37b40:AQ:=.block 1 f37b39
def f37b41:AQ:=.seq f37b40 (.region f37r30)
def f37b42:AQ:=.cond (.t 20) .skip (.exit 0)
def f37b43:AQ:=.seq f37b42 f37b41
def f37r44:LA:=[vX 20 .lss 19 18]
def f37b45:AQ:=ζ f37r44 f37b43
def f37l46:AQ:=.loop [0,17,18,19] [] f37b45
def f37b47:AQ:=.block 0 f37l46
def f37r48:LA:=[θ 17 0,Ω 18 17,η (.mov 19 (φ 0))]
def f37b49:AQ:=ζ f37r48 f37b47
def f37b50:AQ:=.seq f37b49 f37b29
def f37r51:LA:=[η (.nilL 2 3 1),η (.mov 3 (φ 0)),η (.mov 4 (φ 6))]
def f37b52:AQ:=ζ f37r51 .ret
def f37b53:AQ:=.cond (.t 16) f37b52 .skip
def f37r54:LA:=[θ 14 0,Ω 15 14,η (.bin 16 .gtr (.t 15) (φ 8))]
def f37b55:AQ:=ζ f37r54 f37b53
def f37b56:AQ:=.seq f37b55 f37b50
def f37r57:LA:=[η (.nilL 2 3 1),η (.mov 3 (φ 0)),η (.mov 4 (φ 0))]
def f37b58:AQ:=ζ f37r57 f37b56
def f37:AQ:=f37b58
theorem hf37:zH Tryz.prog 37=some ⟨58,f37.erase,[(RX.t 2),(RX.t 3),(RX.t 4)]⟩:=by kernel_rfl
theorem okf37:f37.ok=true:=by kernel_rfl
def Υ37:=PLift.up (ξ (uu f37.eq_1)<|ξ (vv f37r51.eq_1)<|ξ (uu f37b52.eq_1)<|ξ (uu f37b53.eq_1)<|ξ (vv f37r54.eq_1)<|ξ (uu f37b55.eq_1)<|ξ (uu f37b56.eq_1)<|ξ (vv f37r57.eq_1)<|ξ (uu f37b58.eq_1)<|ξ (uu f37b47.eq_1)<|ξ (vv f37r48.eq_1)<|ξ (uu f37b49.eq_1)<|ξ (uu f37b50.eq_1)<|ξ (vv f37r30.eq_1)<|ξ (vv f37r36.eq_1)<|ξ (uu f37b37.eq_1)<|ξ (vv f37r38.eq_1)<|ξ (uu f37b39.eq_1)<|ξ (uu f37b40.eq_1)<|ξ (uu f37b41.eq_1)<|ξ (uu f37b42.eq_1)<|ξ (uu f37b43.eq_1)<|ξ (vv f37r44.eq_1)<|ξ (uu f37b45.eq_1)<|ξ (uu f37b33.eq_1)<|ξ (vv f37r34.eq_1)<|ξ (uu f37b35.eq_1)<|ξ (vv f37r31.eq_1)<|ξ (uu f37b32.eq_1)<|ξ (uu f37b22.eq_1)<|ξ (vv f37r23.eq_1)<|ξ (uu f37b24.eq_1)<|ξ (uu f37b25.eq_1)<|ξ (vv f37r26.eq_1)<|ξ (uu f37b27.eq_1)<|ξ (vv f37r28.eq_1)<|ξ (uu f37b29.eq_1)<|ξ (vv f37r3.eq_1)<|ξ (vv f37r11.eq_1)<|ξ (uu f37b12.eq_1)<|ξ (vv f37r13.eq_1)<|ξ (uu f37b14.eq_1)<|ξ (uu f37b15.eq_1)<|ξ (uu f37b16.eq_1)<|ξ (uu f37b17.eq_1)<|ξ (uu f37b18.eq_1)<|ξ (vv f37r19.eq_1)<|ξ (uu f37b20.eq_1)<|ξ (vv f37r4.eq_1)<|ξ (vv f37r5.eq_1)<|ξ (uu f37b6.eq_1)<|ξ (uu f37b7.eq_1)<|ξ (vv f37r8.eq_1)<|ξ (uu f37b9.eq_1)<|ξ (uu f37b10.eq_1)<|ξ (vv f37r1.eq_1)<|uu f37b2.eq_1)
theorem Ψ37:type_of% Υ37.1:=Υ37.1
def f38r1:LA:=[θ 42 7,θ 6 42]
def f38b2:AQ:=ζ f38r1 .ret
def f38r3:LA:=[θ 17 8,η (.bin 18 .sub (.t 17) (φ 1)),θ 8 18]
def f38r4:LA:=[θ 36 2,θ 37 1,θ 38 8,Ψ 39 1 37 38,ψ 40 1 39,vX 41 .quo 36 40,θ 2 41]
def f38r5o0:AI:=.mk none (.mov 20 (.t 7))
def f38r5o1:AI:=.mk none (.mov 21 (.t 8))
def f38r5o2:AI:=.mk none (.mov 22 (.t 0))
def f38r5o3:AI:=.mk none (.mov 23 (.t 8))
def f38r5o4:AI:=.mk none (.iaddr 24 2 (.t 22) (.t 23))
def f38r5o5:AI:=.mk none (.load 25 2 true (.t 24))
def f38r5o6:AI:=.mk none (.mov 26 (.t 2))
def f38r5o7:AI:=.mk none (.mov 27 (.t 1))
def f38r5o8:AI:=.mk none (.mov 28 (.t 8))
def f38r5o9:AI:=.mk none (.iaddr 29 1 (.t 27) (.t 28))
def f38r5o10:AI:=.mk none (.load 30 1 false (.t 29))
def f38r5o11:AI:=.mk none (.bin 31 .rem (.t 26) (.t 30))
def f38r5o12:AI:=.mk none (.call (some 32) 78 [(.t 25),(.t 31)])
def f38r5o13:AI:=.mk none (.mov 19 (.t 32))
def f38r5o14:AI:=.mk none (.extr 33 (.t 19) 0)
def f38r5o15:AI:=.mk none (.extr 34 (.t 19) 1)
def f38r5o16:AI:=.mk none (.iaddr 35 3 (.t 20) (.t 21))
def f38r5o17:AI:=.mk none (.store 3 (.t 35) (.t 33))
def f38r5:LA:=[f38r5o0,f38r5o1,f38r5o2,f38r5o3,f38r5o4,f38r5o5,f38r5o6,f38r5o7,f38r5o8,f38r5o9,f38r5o10,f38r5o11,f38r5o12,f38r5o13,f38r5o14,f38r5o15,f38r5o16,f38r5o17]
theorem zlz:pZ f38r5 [[],[],[],[],[2,3],[4],[],[],[],[7,8],[9],[6,10],[5,11],[12],[13],[13],[0,1,0,1,2,3,4,5,6,7,8,9,10,11,12,13,14],[16,14,12,0,1,2,3,4,5,6,7,8,9,10,11,12,13,14]]=(.one f38r5o0 (.one f38r5o1 (.one f38r5o2 (.one f38r5o3 (.one f38r5o4 (.one f38r5o5 (.one f38r5o6 (.one f38r5o7 (.one f38r5o8 (.one f38r5o9 (.one f38r5o10 (.one f38r5o11 (.one f38r5o12 (.one f38r5o13 (.one f38r5o14 (.one f38r5o16 (.alt (.one f38r5o15 (.one f38r5o17 .done)) (.alt (.one f38r5o17 (.one f38r5o15 .done)) .top)))))))))))))))))):=by kernel_rfl
def f38b6:AQ:=.seq (.tree f38r5 [[],[],[],[],[2,3],[4],[],[],[],[7,8],[9],[6,10],[5,11],[12],[13],[13],[0,1,0,1,2,3,4,5,6,7,8,9,10,11,12,13,14],[16,14,12,0,1,2,3,4,5,6,7,8,9,10,11,12,13,14]]) (.keep [0,1,2,7,8] [11,32,33000,33001,33002] (.region f38r4))
def f38b7:AQ:=.block 1 f38b6
def f38b8:AQ:=.seq f38b7 (.region f38r3)
def f38b9:AQ:=.cond (.t 16) .skip (.exit 0)
def f38r10:LA:=[θ 15 8,η (.bin 16 .geq (.t 15) (φ 0))]
def f38b11:AQ:=ζ f38r10 f38b9
def f38b12:AQ:=.seq f38b11 f38b8
def f38l13:AQ:=.loop [0,1,2,7,8] [11,32,33000,33001,33002] f38b12
def f38b14:AQ:=.block 0 f38l13
def f38r15:LA:=[θ 12 0,Ω 13 12,η (.bin 14 .sub (.t 13) (φ 1)),θ 8 14]
def f38b16:AQ:=ζ f38r15 f38b14
def f38b17:AQ:=.seq f38b16 f38b2
def f38r18:LA:=[θ 9 0,Ω 10 9,η (.mkslice 11 53 3 64 [(.str []),(.list 0 (some true) []),(.list 0 (some true) [])] (.t 10) (.t 10)),θ 7 11]
def f38b19:AQ:=ζ f38r18 f38b17
def f38r20:LA:=[η (.nilL 6 53 3)]
def f38b21:AQ:=ζ f38r20 f38b19
def f38:AQ:=f38b21
theorem hf38:zH Tryz.prog 38=some ⟨43,f38.erase,[(RX.t 6)]⟩:=by kernel_rfl
theorem okf38:f38.ok=true:=by kernel_rfl
def Υ38:=PLift.up (ξ (uu f38.eq_1)<|ξ (uu f38b14.eq_1)<|ξ (vv f38r15.eq_1)<|ξ (uu f38b16.eq_1)<|ξ (uu f38b17.eq_1)<|ξ (vv f38r18.eq_1)<|ξ (uu f38b19.eq_1)<|ξ (vv f38r20.eq_1)<|ξ (uu f38b21.eq_1)<|ξ (vv f38r1.eq_1)<|ξ (uu f38b2.eq_1)<|ξ (uu f38b9.eq_1)<|ξ (vv f38r10.eq_1)<|ξ (uu f38b11.eq_1)<|ξ (uu f38b12.eq_1)<|ξ (vv f38r3.eq_1)<|ξ (vv f38r4.eq_1)<|ξ (uu f38b6.eq_1)<|ξ (uu f38b7.eq_1)<|uu f38b8.eq_1)
theorem Ψ38:type_of% Υ38.1:=Υ38.1
def f35r1:LA:=[θ 15 3,θ 2 15]
def f35b2:AQ:=ζ f35r1 .ret
def f35r3:LA:=[θ 6 0,θ 7 0,η (.bin 8 .sub (.t 7) (.v (.k (.c (.int .u64 1))))),vX 9 .and 6 8,θ 0 9]
def f35r4:LA:=[θ 10 3,θ 11 0,Θ 12 75 11,η (.bslice 13 3 1 [(.int .i64 0)] 1 [(0,(.t 12))]),η (.append 14 3 1 8 (.t 10) (.t 13)),θ 3 14]
def f35b5:AQ:=.block 1 (.region f35r4)
def f35b6:AQ:=.seq f35b5 (.region f35r3)
def f35b7:AQ:=.cond (.t 5) .skip (.exit 0)
def f35r8:LA:=[θ 4 0,η (.bin 5 .neq (.t 4) (.v (.k (.c (.int .u64 0)))))]
def f35b9:AQ:=ζ f35r8 f35b7
def f35b10:AQ:=.seq f35b9 f35b6
def f35l11:AQ:=.loop [0,3] [3,14] f35b10
def f35b12:AQ:=.block 0 f35l11
def f35b13:AQ:=.seq f35b12 f35b2
def f35r14:LA:=[η (.nilL 3 3 1)]
def f35b15:AQ:=ζ f35r14 f35b13
def f35r16:LA:=[η (.nilL 2 3 1)]
def f35b17:AQ:=ζ f35r16 f35b15
def f35:AQ:=f35b17
theorem hf35:zH Tryz.prog 35=some ⟨16,f35.erase,[(RX.t 2)]⟩:=by kernel_rfl
theorem okf35:f35.ok=true:=by kernel_rfl
def Υ35:=PLift.up (ξ (uu f35.eq_1)<|ξ (uu f35b12.eq_1)<|ξ (uu f35b13.eq_1)<|ξ (vv f35r14.eq_1)<|ξ (uu f35b15.eq_1)<|ξ (vv f35r16.eq_1)<|ξ (uu f35b17.eq_1)<|ξ (vv f35r1.eq_1)<|ξ (uu f35b2.eq_1)<|ξ (uu f35b7.eq_1)<|ξ (vv f35r8.eq_1)<|ξ (uu f35b9.eq_1)<|ξ (uu f35b10.eq_1)<|ξ (vv f35r3.eq_1)<|ξ (vv f35r4.eq_1)<|ξ (uu f35b5.eq_1)<|uu f35b6.eq_1)
theorem Ψ35:type_of% Υ35.1:=Υ35.1
def f36r1:LA:=[θ 5 0,θ 6 1,Ξ 7 76 5 6,η (.bin 8 .geq (.t 7) (φ 0)),θ 4 8]
def f36b2:AQ:=ζ f36r1 .ret
def f36r3:LA:=[η (.mov 4 (χ false))]
def f36b4:AQ:=ζ f36r3 f36b2
def f36:AQ:=f36b4
theorem hf36:zH Tryz.prog 36=some ⟨9,f36.erase,[(RX.t 4)]⟩:=by kernel_rfl
theorem okf36:f36.ok=true:=by kernel_rfl
def Υ36:=PLift.up (ξ (uu f36.eq_1)<|ξ (vv f36r1.eq_1)<|ξ (uu f36b2.eq_1)<|ξ (vv f36r3.eq_1)<|uu f36b4.eq_1)
theorem Ψ36:type_of% Υ36.1:=Υ36.1
def f76r1:LA:=[η (.mov 4 (.v (.k (.c (.int .i64 (-1))))))]
def f76b2:AQ:=ζ f76r1 .ret
def f76r3:LA:=[η (.bin 18 .add (.t 8) (φ 1)),θ 8 18]
def f76r4:LA:=[θ 17 5,θ 4 17]
def f76b5:AQ:=ζ f76r4 .ret
def f76b6:AQ:=.cond (.t 16) f76b5 .skip
def f76r7:LA:=[θ 11 1,θ 12 0,θ 13 5,Ψ 14 1 12 13,ψ 15 1 14,vX 16 .eql 11 15]
def f76b8:AQ:=ζ f76r7 f76b6
def f76r9:LA:=[θ 10 8,θ 5 10]
def f76b10:AQ:=ζ f76r9 f76b8
def f76b11:AQ:=.block 1 f76b10
def f76b12:AQ:=.seq f76b11 (.region f76r3)
def f76b13:AQ:=.cond (.t 9) .skip (.exit 0)
def f76b14:AQ:=.seq f76b13 f76b12
def f76r15:LA:=[vX 9 .lss 8 7]
def f76b16:AQ:=ζ f76r15 f76b14
def f76l17:AQ:=.loop [0,1,7,8] [] f76b16
def f76b18:AQ:=.block 0 f76l17
def f76r19:LA:=[θ 6 0,Ω 7 6,η (.mov 8 (φ 0))]
def f76b20:AQ:=ζ f76r19 f76b18
def f76b21:AQ:=.seq f76b20 f76b2
def f76r22:LA:=[η (.mov 4 (φ 0))]
def f76b23:AQ:=ζ f76r22 f76b21
def f76:AQ:=f76b23
theorem hf76:zH Tryz.prog 76=some ⟨19,f76.erase,[(RX.t 4)]⟩:=by kernel_rfl
theorem okf76:f76.ok=true:=by kernel_rfl
def Υ76:=PLift.up (ξ (uu f76.eq_1)<|ξ (uu f76b18.eq_1)<|ξ (vv f76r19.eq_1)<|ξ (uu f76b20.eq_1)<|ξ (uu f76b21.eq_1)<|ξ (vv f76r22.eq_1)<|ξ (uu f76b23.eq_1)<|ξ (vv f76r3.eq_1)<|ξ (vv f76r4.eq_1)<|ξ (uu f76b5.eq_1)<|ξ (uu f76b6.eq_1)<|ξ (vv f76r7.eq_1)<|ξ (uu f76b8.eq_1)<|ξ (vv f76r9.eq_1)<|ξ (uu f76b10.eq_1)<|ξ (uu f76b11.eq_1)<|ξ (uu f76b12.eq_1)<|ξ (uu f76b13.eq_1)<|ξ (uu f76b14.eq_1)<|ξ (vv f76r15.eq_1)<|ξ (uu f76b16.eq_1)<|ξ (vv f76r1.eq_1)<|uu f76b2.eq_1)
theorem Ψ76:type_of% Υ76.1:=Υ76.1
def f33r1:LA:=[θ 78 10,θ 2 78]
def f33b2:AQ:=ζ f33r1 .ret
def f33r3:LA:=[θ 76 10,η (.call (some 77) 69 [(.t 76),(.v (.k (.c (.fn 70 []))))])]
def f33b4:AQ:=ζ f33r3 f33b2
def f33r5:LA:=[η (.bin 75 .add (.t 66) (φ 1)),θ 66 75]
def f33r6:LA:=[θ 70 10,θ 71 12,Θ 72 35 71,η (.bslice 73 30 1 [(.list 0 (some true) [])] 1 [(0,(.t 72))]),η (.append 74 30 1 24 (.t 70) (.t 73)),θ 10 74]
def f33r7:LA:=[Ψ 68 1 64 66,ψ 69 1 68,θ 12 69]
def f33b8:AQ:=ζ f33r7 (.region f33r6)
def f33b9:AQ:=.block 7 f33b8
def f33b10:AQ:=.seq f33b9 (.region f33r5)
def f33b11:AQ:=.cond (.t 67) .skip (.exit 6)
def f33b12:AQ:=.seq f33b11 f33b10
def f33r13:LA:=[vX 67 .lss 66 65]
def f33b14:AQ:=ζ f33r13 f33b12
def f33l15:AQ:=.loop [10,64,65,66] [3,10,26,63,74] f33b14
def f33b16:AQ:=.block 6 f33l15
def f33r17:LA:=[θ 64 3,Ω 65 64,η (.mov 66 (φ 0))]
def f33b18:AQ:=ζ f33r17 f33b16
def f33b19:AQ:=.seq f33b18 f33b4
def f33r20:LA:=[η (.nilL 10 30 1)]
def f33b21:AQ:=ζ f33r20 f33b19
def f33r22:LA:=[θ 33 6,η (.bin 34 .sub (.t 33) (.v (.k (.c (.int .u64 1))))),Γ 35 2 1,ψ 36 1 35,vX 37 .and 34 36,θ 6 37]
def f33r23:LA:=[θ 60 3,θ 61 6,η (.bslice 62 71 1 [(.int .u64 0)] 1 [(0,(.t 61))]),η (.append 63 71 1 8 (.t 60) (.t 62)),θ 3 63]
def f33b24:AQ:=.cond (.t 59) (.region f33r23) .skip
def f33r25:LA:=[θ 59 7]
def f33b26:AQ:=ζ f33r25 f33b24
def f33r27:LA:=[η (.bin 58 .add (.t 44) (φ 1)),θ 44 58]
def f33r28:LA:=[θ 48 7,θ 49 48,kI 49 (.mov 50 (.t 5)),kI 49 (.mov 51 (.t 6)),kI 49 (.mov 52 (.t 9)),kI 49 (.bin 53 .shl (.v (.k (.c (.int .u64 1)))) (.t 52)),kI 49 (.bin 54 .andNot (.t 51) (.t 53)),kI 49 (.callv (some 55) (.t 50) [(.t 54)]),kI 49 (.un 56 .not (.t 55)),η (.pick 57 (.t 49) (.t 56) (χ false)),θ 7 57]
def f33r29:LA:=[Ψ 46 1 42 44,ψ 47 1 46,θ 9 47]
def f33b30:AQ:=ζ f33r29 (.region f33r28)
def f33b31:AQ:=.block 5 f33b30
def f33b32:AQ:=.seq f33b31 (.region f33r27)
def f33b33:AQ:=.cond (.t 45) .skip (.exit 4)
def f33b34:AQ:=.seq f33b33 f33b32
def f33r35:LA:=[vX 45 .lss 44 43]
def f33b36:AQ:=ζ f33r35 f33b34
def f33l37:AQ:=.loop [1,3,5,6,7,42,43,44] [1,3,26,40,42,63,41000,41001,41002,43000,43001,43002] f33b36
def f33b38:AQ:=.block 4 f33l37
def f33r39:LA:=[θ 41 6,Θ 42 35 41,Ω 43 42,η (.mov 44 (φ 0))]
def f33b40:AQ:=ζ f33r39 f33b38
def f33b41:AQ:=.seq f33b40 f33b26
def f33r42:LA:=[θ 38 5,θ 39 6,η (.callv (some 40) (.t 38) [(.t 39)]),θ 7 40]
def f33b43:AQ:=ζ f33r42 f33b41
def f33b44:AQ:=.block 3 f33b43
def f33b45:AQ:=.seq f33b44 (.region f33r22)
def f33b46:AQ:=.cond (.t 32) .skip (.exit 2)
def f33r47:LA:=[θ 31 6,η (.bin 32 .neq (.t 31) (.v (.k (.c (.int .u64 0)))))]
def f33b48:AQ:=ζ f33r47 f33b46
def f33b49:AQ:=.seq f33b48 f33b45
def f33l50:AQ:=.loop [1,3,5,6] [1,3,26,63] f33b49
def f33b51:AQ:=.block 2 f33l50
def f33r52:LA:=[Γ 29 2 1,ψ 30 1 29,θ 6 30]
def f33b53:AQ:=ζ f33r52 f33b51
def f33b54:AQ:=.seq f33b53 f33b21
def f33r55:LA:=[η (.mkfn 28 66 [(.t 1)]),θ 5 28]
def f33b56:AQ:=ζ f33r55 f33b54
def f33r57:LA:=[η (.bin 27 .add (.t 13) (φ 1)),θ 13 27]
def f33r58:LA:=[θ 22 3,θ 23 4,η (.bin 24 .shl (.v (.k (.c (.int .u64 1)))) (.t 23)),η (.bslice 25 71 1 [(.int .u64 0)] 1 [(0,(.t 24))]),η (.append 26 71 1 8 (.t 22) (.t 25)),θ 3 26]
def f33b59:AQ:=.cond (.t 21) (.region f33r58) .skip
def f33r60:LA:=[Γ 16 1 1,ψ 17 1 16,θ 18 4,vX 19 .shr 17 18,η (.bin 20 .and (.t 19) (.v (.k (.c (.int .u64 1))))),η (.bin 21 .eql (.t 20) (.v (.k (.c (.int .u64 1)))))]
def f33b61:AQ:=ζ f33r60 f33b59
def f33r62:LA:=[θ 15 13,θ 4 15]
def f33b63:AQ:=ζ f33r62 f33b61
def f33b64:AQ:=.block 1 f33b63
def f33b65:AQ:=.seq f33b64 (.region f33r57)
def f33b66:AQ:=.cond (.t 14) .skip (.exit 0)
def f33b67:AQ:=.seq f33b66 f33b65
def f33r68:LA:=[η (.bin 14 .lss (.t 13) (φ 64))]
def f33b69:AQ:=ζ f33r68 f33b67
def f33l70:AQ:=.loop [1,3,13] [1,3,26,63] f33b69
def f33b71:AQ:=.block 0 f33l70
def f33r72:LA:=[η (.mov 13 (φ 0))]
def f33b73:AQ:=ζ f33r72 f33b71
def f33b74:AQ:=.seq f33b73 f33b56
def f33r75:LA:=[η (.nilL 3 71 1)]
def f33b76:AQ:=ζ f33r75 f33b74
def f33r77:LA:=[xB 1 73 0,η (.nilL 2 30 1)]
def f33b78:AQ:=ζ f33r77 (.frz 1 f33b76)
def f33:AQ:=f33b78
theorem hf33:zH Tryz.prog 33=some ⟨79,f33.erase,[(RX.t 2)]⟩:=by kernel_rfl
theorem okf33:f33.ok=true:=by kernel_rfl
def Υ33:=PLift.up (ξ (uu f33.eq_1)<|ξ (uu f33b71.eq_1)<|ξ (vv f33r72.eq_1)<|ξ (uu f33b73.eq_1)<|ξ (uu f33b74.eq_1)<|ξ (vv f33r75.eq_1)<|ξ (uu f33b76.eq_1)<|ξ (vv f33r77.eq_1)<|ξ (uu f33b78.eq_1)<|ξ (vv f33r57.eq_1)<|ξ (vv f33r58.eq_1)<|ξ (uu f33b59.eq_1)<|ξ (vv f33r60.eq_1)<|ξ (uu f33b61.eq_1)<|ξ (vv f33r62.eq_1)<|ξ (uu f33b63.eq_1)<|ξ (uu f33b64.eq_1)<|ξ (uu f33b65.eq_1)<|ξ (uu f33b66.eq_1)<|ξ (uu f33b67.eq_1)<|ξ (vv f33r68.eq_1)<|ξ (uu f33b69.eq_1)<|ξ (uu f33b51.eq_1)<|ξ (vv f33r52.eq_1)<|ξ (uu f33b53.eq_1)<|ξ (uu f33b54.eq_1)<|ξ (vv f33r55.eq_1)<|ξ (uu f33b56.eq_1)<|ξ (uu f33b16.eq_1)<|ξ (vv f33r17.eq_1)<|ξ (uu f33b18.eq_1)<|ξ (uu f33b19.eq_1)<|ξ (vv f33r20.eq_1)<|ξ (uu f33b21.eq_1)<|ξ (uu f33b46.eq_1)<|ξ (vv f33r47.eq_1)<|ξ (uu f33b48.eq_1)<|ξ (uu f33b49.eq_1)<|ξ (vv f33r5.eq_1)<|ξ (vv f33r6.eq_1)<|ξ (vv f33r7.eq_1)<|ξ (uu f33b8.eq_1)<|ξ (uu f33b9.eq_1)<|ξ (uu f33b10.eq_1)<|ξ (uu f33b11.eq_1)<|ξ (uu f33b12.eq_1)<|ξ (vv f33r13.eq_1)<|ξ (uu f33b14.eq_1)<|ξ (vv f33r3.eq_1)<|ξ (uu f33b4.eq_1)<|ξ (vv f33r1.eq_1)<|ξ (uu f33b2.eq_1)<|ξ (vv f33r22.eq_1)<|ξ (vv f33r42.eq_1)<|ξ (uu f33b43.eq_1)<|ξ (uu f33b44.eq_1)<|ξ (uu f33b45.eq_1)<|ξ (vv f33r39.eq_1)<|ξ (uu f33b40.eq_1)<|ξ (uu f33b41.eq_1)<|ξ (uu f33b38.eq_1)<|ξ (vv f33r27.eq_1)<|ξ (vv f33r28.eq_1)<|ξ (vv f33r29.eq_1)<|ξ (uu f33b30.eq_1)<|ξ (uu f33b31.eq_1)<|ξ (uu f33b32.eq_1)<|ξ (uu f33b33.eq_1)<|ξ (uu f33b34.eq_1)<|ξ (vv f33r35.eq_1)<|ξ (uu f33b36.eq_1)<|ξ (vv f33r23.eq_1)<|ξ (uu f33b24.eq_1)<|ξ (vv f33r25.eq_1)<|uu f33b26.eq_1)
theorem Ψ33:type_of% Υ33.1:=Υ33.1
def f66r1:LA:=[Γ 4 0 1,ψ 5 1 4,η (.mkfn 6 68 [(.t 2)]),Ξ 7 67 5 6,η (.un 8 .not (.t 7)),θ 3 8]
def f66b2:AQ:=ζ f66r1 .ret
def f66r3:LA:=[xB 2 71 0,η (.mov 3 (χ false))]
def f66b4:AQ:=ζ f66r3 (.frz 2 f66b2)
def f66:AQ:=f66b4
theorem hf66:zH Tryz.prog 66=some ⟨9,f66.erase,[(RX.t 3)]⟩:=by kernel_rfl
theorem okf66:f66.ok=true:=by kernel_rfl
def Υ66:=PLift.up (ξ (uu f66.eq_1)<|ξ (vv f66r1.eq_1)<|ξ (uu f66b2.eq_1)<|ξ (vv f66r3.eq_1)<|uu f66b4.eq_1)
theorem Ψ66:type_of% Υ66.1:=Υ66.1
def f67r1:LA:=[θ 5 0,θ 6 1,Ξ 7 105 5 6,η (.bin 8 .geq (.t 7) (φ 0)),θ 4 8]
def f67b2:AQ:=ζ f67r1 .ret
def f67r3:LA:=[η (.mov 4 (χ false))]
def f67b4:AQ:=ζ f67r3 f67b2
def f67:AQ:=f67b4
theorem hf67:zH Tryz.prog 67=some ⟨9,f67.erase,[(RX.t 4)]⟩:=by kernel_rfl
theorem okf67:f67.ok=true:=by kernel_rfl
def Υ67:=PLift.up (ξ (uu f67.eq_1)<|ξ (vv f67r1.eq_1)<|ξ (uu f67b2.eq_1)<|ξ (vv f67r3.eq_1)<|uu f67b4.eq_1)
theorem Ψ67:type_of% Υ67.1:=Υ67.1
def f68r1:LA:=[θ 4 0,ψ 5 1 1,vX 6 .and 4 5,η (.bin 7 .eql (.t 6) (.v (.k (.c (.int .u64 0))))),θ 3 7]
def f68b2:AQ:=ζ f68r1 .ret
def f68r3:LA:=[η (.mov 3 (χ false))]
def f68b4:AQ:=ζ f68r3 f68b2
def f68:AQ:=f68b4
theorem hf68:zH Tryz.prog 68=some ⟨8,f68.erase,[(RX.t 3)]⟩:=by kernel_rfl
theorem okf68:f68.ok=true:=by kernel_rfl
def Υ68:=PLift.up (ξ (uu f68.eq_1)<|ξ (vv f68r1.eq_1)<|ξ (uu f68b2.eq_1)<|ξ (vv f68r3.eq_1)<|uu f68b4.eq_1)
theorem Ψ68:type_of% Υ68.1:=Υ68.1
def f105r1:LA:=[η (.mov 4 (.v (.k (.c (.int .i64 (-1))))))]
def f105b2:AQ:=ζ f105r1 .ret
def f105r3:LA:=[η (.bin 18 .add (.t 8) (φ 1)),θ 8 18]
def f105r4:LA:=[θ 17 5,θ 4 17]
def f105b5:AQ:=ζ f105r4 .ret
def f105b6:AQ:=.cond (.t 16) f105b5 .skip
def f105r7:LA:=[θ 11 1,θ 12 0,θ 13 5,Ψ 14 1 12 13,ψ 15 1 14,η (.callv (some 16) (.t 11) [(.t 15)])]
def f105b8:AQ:=ζ f105r7 f105b6
def f105r9:LA:=[θ 10 8,θ 5 10]
def f105b10:AQ:=ζ f105r9 f105b8
def f105b11:AQ:=.block 1 f105b10
def f105b12:AQ:=.seq f105b11 (.region f105r3)
def f105b13:AQ:=.cond (.t 9) .skip (.exit 0)
def f105b14:AQ:=.seq f105b13 f105b12
def f105r15:LA:=[vX 9 .lss 8 7]
def f105b16:AQ:=ζ f105r15 f105b14
def f105l17:AQ:=.loop [0,1,7,8] [] f105b16
def f105b18:AQ:=.block 0 f105l17
def f105r19:LA:=[θ 6 0,Ω 7 6,η (.mov 8 (φ 0))]
def f105b20:AQ:=ζ f105r19 f105b18
def f105b21:AQ:=.seq f105b20 f105b2
def f105r22:LA:=[η (.mov 4 (φ 0))]
def f105b23:AQ:=ζ f105r22 f105b21
def f105:AQ:=f105b23
theorem hf105:zH Tryz.prog 105=some ⟨19,f105.erase,[(RX.t 4)]⟩:=by kernel_rfl
theorem okf105:f105.ok=true:=by kernel_rfl
def Υ105:=PLift.up (ξ (uu f105.eq_1)<|ξ (uu f105b18.eq_1)<|ξ (vv f105r19.eq_1)<|ξ (uu f105b20.eq_1)<|ξ (uu f105b21.eq_1)<|ξ (vv f105r22.eq_1)<|ξ (uu f105b23.eq_1)<|ξ (vv f105r3.eq_1)<|ξ (vv f105r7.eq_1)<|ξ (uu f105b8.eq_1)<|ξ (vv f105r9.eq_1)<|ξ (uu f105b10.eq_1)<|ξ (uu f105b11.eq_1)<|ξ (uu f105b12.eq_1)<|ξ (uu f105b13.eq_1)<|ξ (uu f105b14.eq_1)<|ξ (vv f105r15.eq_1)<|ξ (uu f105b16.eq_1)<|ξ (vv f105r4.eq_1)<|ξ (uu f105b5.eq_1)<|ξ (uu f105b6.eq_1)<|ξ (vv f105r1.eq_1)<|uu f105b2.eq_1)
theorem Ψ105:type_of% Υ105.1:=Υ105.1
def f34r1:LA:=[θ 27 7,Θ 28 74 27,θ 6 28]
def f34b2:AQ:=ζ f34r1 .ret
def f34r3:LA:=[θ 25 7,η (.call (some 26) 72 [(.t 25),(.v (.k (.c (.fn 73 []))))])]
def f34b4:AQ:=ζ f34r3 f34b2
def f34r5:LA:=[η (.bin 24 .add (.t 12) (φ 1)),θ 12 24]
def f34r6:LA:=[θ 16 7,θ 17 0,θ 18 9,Ψ 19 8 17 18,ω 20 8 19,θ 21 2,Ξ 22 16 20 21,η (.append 23 64 2 16 (.t 16) (.t 22)),θ 7 23]
def f34r7:LA:=[Ψ 14 1 10 12,ψ 15 1 14,θ 9 15]
def f34b8:AQ:=ζ f34r7 (.region f34r6)
def f34b9:AQ:=.block 1 f34b8
def f34b10:AQ:=.seq f34b9 (.region f34r5)
def f34b11:AQ:=.cond (.t 13) .skip (.exit 0)
def f34b12:AQ:=.seq f34b11 f34b10
def f34r13:LA:=[vX 13 .lss 12 11]
def f34b14:AQ:=ζ f34r13 f34b12
def f34l15:AQ:=.loop [0,2,7,10,11,12] [7,23] f34b14
def f34b16:AQ:=.block 0 f34l15
def f34r17:LA:=[θ 10 1,Ω 11 10,η (.mov 12 (φ 0))]
def f34b18:AQ:=ζ f34r17 f34b16
def f34b19:AQ:=.seq f34b18 f34b4
def f34r20:LA:=[η (.nilL 7 64 2)]
def f34b21:AQ:=ζ f34r20 f34b19
def f34r22:LA:=[η (.nilL 6 64 2)]
def f34b23:AQ:=ζ f34r22 f34b21
def f34:AQ:=f34b23
theorem hf34:zH Tryz.prog 34=some ⟨29,f34.erase,[(RX.t 6)]⟩:=by kernel_rfl
theorem okf34:f34.ok=true:=by kernel_rfl
def Υ34:=PLift.up (ξ (uu f34.eq_1)<|ξ (uu f34b16.eq_1)<|ξ (vv f34r17.eq_1)<|ξ (uu f34b18.eq_1)<|ξ (uu f34b19.eq_1)<|ξ (vv f34r20.eq_1)<|ξ (uu f34b21.eq_1)<|ξ (vv f34r22.eq_1)<|ξ (uu f34b23.eq_1)<|ξ (vv f34r5.eq_1)<|ξ (vv f34r6.eq_1)<|ξ (vv f34r7.eq_1)<|ξ (uu f34b8.eq_1)<|ξ (uu f34b9.eq_1)<|ξ (uu f34b10.eq_1)<|ξ (uu f34b11.eq_1)<|ξ (uu f34b12.eq_1)<|ξ (vv f34r13.eq_1)<|ξ (uu f34b14.eq_1)<|ξ (vv f34r3.eq_1)<|ξ (uu f34b4.eq_1)<|ξ (vv f34r1.eq_1)<|uu f34b2.eq_1)
theorem Ψ34:type_of% Υ34.1:=Υ34.1
def f10r1:LA:=[θ 67 10,θ 4 67,η (.mov 5 (φ 0))]
def f10b2:AQ:=ζ f10r1 .ret
def f10r3:LA:=[η (.bin 66 .add (.t 51) (φ 1)),θ 51 66]
def f10r4:LA:=[θ 57 10,θ 58 15,θ 59 0,θ 60 15,θ 61 8,η (.call (some 62) 34 [(.t 59),(.t 60),(.t 61)]),η (.build 63 [(.list 0 (some true) []),(.list 0 (some true) []),(.bool false)] [(0,(1,(.t 58))),(1,(1,(.t 62)))]),η (.bslice 64 33 3 [(.list 0 (some true) []),(.list 0 (some true) []),(.bool false)] 1 [(0,(.t 63))]),η (.append 65 33 3 56 (.t 57) (.t 64)),θ 10 65]
def f10r5:LA:=[θ 55 14,η (.bslice 56 3 1 [(.int .i64 0)] 1 [(0,(.t 55))]),θ 15 56]
def f10b6:AQ:=ζ f10r5 (.region f10r4)
def f10r7:LA:=[Ψ 53 1 49 51,ψ 54 1 53,θ 14 54]
def f10b8:AQ:=ζ f10r7 f10b6
def f10b9:AQ:=.block 3 f10b8
def f10b10:AQ:=.seq f10b9 (.region f10r3)
def f10b11:AQ:=.cond (.t 52) .skip (.exit 2)
def f10b12:AQ:=.seq f10b11 f10b10
def f10r13:LA:=[vX 52 .lss 51 50]
def f10b14:AQ:=ζ f10r13 f10b12
def f10l15:AQ:=.loop [0,8,10,49,50,51] [10,19,27,45,49,65,20000,20001,20002,28000,28001,28002,50000,50001,50002] f10b14
def f10b16:AQ:=.block 2 f10l15
def f10r17:LA:=[Γ 47 2 6,ψ 48 1 47,Θ 49 35 48,Ω 50 49,η (.mov 51 (φ 0))]
def f10b18:AQ:=ζ f10r17 f10b16
def f10b19:AQ:=.seq f10b18 f10b2
def f10r20:LA:=[η (.bin 46 .add (.t 33) (φ 1)),θ 33 46]
def f10r21:LA:=[θ 37 10,θ 38 12,θ 39 0,θ 40 12,θ 41 8,η (.call (some 42) 34 [(.t 39),(.t 40),(.t 41)]),η (.build 43 [(.list 0 (some true) []),(.list 0 (some true) []),(.bool false)] [(0,(1,(.t 38))),(1,(1,(.t 42))),(2,(1,(χ true)))]),η (.bslice 44 33 3 [(.list 0 (some true) []),(.list 0 (some true) []),(.bool false)] 1 [(0,(.t 43))]),η (.append 45 33 3 56 (.t 37) (.t 44)),θ 10 45]
def f10r22:LA:=[Ψ 35 1 31 33,ψ 36 1 35,θ 12 36]
def f10b23:AQ:=ζ f10r22 (.region f10r21)
def f10b24:AQ:=.block 1 f10b23
def f10b25:AQ:=.seq f10b24 (.region f10r20)
def f10b26:AQ:=.cond (.t 34) .skip (.exit 0)
def f10b27:AQ:=.seq f10b26 f10b25
def f10r28:LA:=[vX 34 .lss 33 32]
def f10b29:AQ:=ζ f10r28 f10b27
def f10l30:AQ:=.loop [0,6,8,10,31,32,33] [6,10,19,27,31,45,65,20000,20001,20002,28000,28001,28002,32000,32001,32002] f10b29
def f10b31:AQ:=.block 0 f10l30
def f10r32:LA:=[ω 30 3 6,Θ 31 33 30,Ω 32 31,η (.mov 33 (φ 0))]
def f10b33:AQ:=ζ f10r32 f10b31
def f10b34:AQ:=.seq f10b33 f10b19
def f10r35:LA:=[η (.nilL 10 33 3)]
def f10b36:AQ:=ζ f10r35 f10b34
def f10r37:LA:=[θ 26 1,η (.call (some 27) 14 [(.t 26),(φ 0)]),θ 25 27,Δ 28 25 0,Δ 29 25 1,θ 8 28,θ 9 29]
def f10b38:AQ:=ζ f10r37 f10b36
def f10r39:LA:=[θ 24 7,η (.nilL 4 33 3),θ 5 24]
def f10b40:AQ:=ζ f10r39 .ret
def f10b41:AQ:=.cond (.t 23) f10b40 .skip
def f10r42:LA:=[θ 22 7,η (.bin 23 .neq (.t 22) (φ 0))]
def f10b43:AQ:=ζ f10r42 f10b41
def f10b44:AQ:=.seq f10b43 f10b38
def f10r45:LA:=[θ 17 0,θ 18 1,Ξ 19 32 17 18,θ 16 19,Δ 20 16 0,Δ 21 16 1,η (.alloc 6 73 [(.list 0 (some true) []),(.int .u64 0),(.int .u64 0)]),Φ 3 6 20,θ 7 21]
def f10b46:AQ:=ζ f10r45 (.frz 6 f10b44)
def f10r47:LA:=[η (.nilL 4 33 3),η (.mov 5 (φ 0))]
def f10b48:AQ:=ζ f10r47 f10b46
def f10:AQ:=f10b48
theorem hf10:zH Tryz.prog 10=some ⟨68,f10.erase,[(RX.t 4),(RX.t 5)]⟩:=by kernel_rfl
theorem okf10:f10.ok=true:=by kernel_rfl
def Υ10:=PLift.up (ξ (uu f10.eq_1)<|ξ (vv f10r45.eq_1)<|ξ (uu f10b46.eq_1)<|ξ (vv f10r47.eq_1)<|ξ (uu f10b48.eq_1)<|ξ (vv f10r37.eq_1)<|ξ (uu f10b38.eq_1)<|ξ (uu f10b41.eq_1)<|ξ (vv f10r42.eq_1)<|ξ (uu f10b43.eq_1)<|ξ (uu f10b44.eq_1)<|ξ (vv f10r32.eq_1)<|ξ (uu f10b33.eq_1)<|ξ (uu f10b34.eq_1)<|ξ (vv f10r35.eq_1)<|ξ (uu f10b36.eq_1)<|ξ (uu f10b31.eq_1)<|ξ (vv f10r20.eq_1)<|ξ (vv f10r21.eq_1)<|ξ (vv f10r22.eq_1)<|ξ (uu f10b23.eq_1)<|ξ (uu f10b24.eq_1)<|ξ (uu f10b25.eq_1)<|ξ (uu f10b26.eq_1)<|ξ (uu f10b27.eq_1)<|ξ (vv f10r28.eq_1)<|ξ (uu f10b29.eq_1)<|ξ (vv f10r17.eq_1)<|ξ (uu f10b18.eq_1)<|ξ (uu f10b19.eq_1)<|ξ (uu f10b16.eq_1)<|ξ (vv f10r3.eq_1)<|ξ (vv f10r4.eq_1)<|ξ (vv f10r5.eq_1)<|ξ (uu f10b6.eq_1)<|ξ (vv f10r7.eq_1)<|ξ (uu f10b8.eq_1)<|ξ (uu f10b9.eq_1)<|ξ (uu f10b10.eq_1)<|ξ (uu f10b11.eq_1)<|ξ (uu f10b12.eq_1)<|ξ (vv f10r13.eq_1)<|ξ (uu f10b14.eq_1)<|ξ (vv f10r1.eq_1)<|ξ (uu f10b2.eq_1)<|ξ (vv f10r39.eq_1)<|uu f10b40.eq_1)
theorem Ψ10:type_of% Υ10.1:=Υ10.1
def f12r1:LA:=[η (.mov 4 (φ 2)),η (.mov 5 (φ 0))]
def f12b2:AQ:=ζ f12r1 .ret
def f12r3:LA:=[η (.mov 4 (φ 0)),η (.mov 5 (φ 0))]
def f12b4:AQ:=ζ f12r3 .ret
def f12r5:LA:=[η (.mov 4 (φ 1)),η (.mov 5 (φ 0))]
def f12b6:AQ:=ζ f12r5 .ret
def f12b7:AQ:=.cond (.t 22) f12b6 .skip
def f12r8:LA:=[Γ 23 0 6,ψ 24 1 23,Ω 25 24,η (.bin 26 .eql (.t 25) (φ 1)),θ 22 26]
def f12b9:AQ:=ζ f12r8 f12b7
def f12b10:AQ:=.cond (.t 17) f12b4 f12b9
def f12r11:LA:=[Γ 18 0 6,ψ 19 1 18,η (.call (some 20) 36 [(.t 19),(.v (.k (.c (.int .u64 0))))]),η (.un 21 .not (.t 20)),θ 17 21]
def f12b12:AQ:=ζ f12r11 f12b10
def f12b13:AQ:=.block 0 f12b12
def f12b14:AQ:=.seq f12b13 f12b2
def f12r15:LA:=[θ 16 7,η (.mov 4 (φ 0)),θ 5 16]
def f12b16:AQ:=ζ f12r15 .ret
def f12b17:AQ:=.cond (.t 15) f12b16 .skip
def f12r18:LA:=[θ 14 7,η (.bin 15 .neq (.t 14) (φ 0))]
def f12b19:AQ:=ζ f12r18 f12b17
def f12b20:AQ:=.seq f12b19 f12b14
def f12r21:LA:=[θ 9 0,θ 10 1,Ξ 11 32 9 10,θ 8 11,Δ 12 8 0,Δ 13 8 1,η (.alloc 6 73 [(.list 0 (some true) []),(.int .u64 0),(.int .u64 0)]),Φ 3 6 12,θ 7 13]
def f12b22:AQ:=ζ f12r21 (.frz 6 f12b20)
def f12r23:LA:=[η (.mov 4 (φ 0)),η (.mov 5 (φ 0))]
def f12b24:AQ:=ζ f12r23 f12b22
def f12:AQ:=f12b24
theorem hf12:zH Tryz.prog 12=some ⟨27,f12.erase,[(RX.t 4),(RX.t 5)]⟩:=by kernel_rfl
theorem okf12:f12.ok=true:=by kernel_rfl
def Υ12:=PLift.up (ξ (uu f12.eq_1)<|ξ (vv f12r21.eq_1)<|ξ (uu f12b22.eq_1)<|ξ (vv f12r23.eq_1)<|ξ (uu f12b24.eq_1)<|ξ (vv f12r11.eq_1)<|ξ (uu f12b12.eq_1)<|ξ (uu f12b13.eq_1)<|ξ (uu f12b14.eq_1)<|ξ (uu f12b17.eq_1)<|ξ (vv f12r18.eq_1)<|ξ (uu f12b19.eq_1)<|ξ (uu f12b20.eq_1)<|ξ (vv f12r5.eq_1)<|ξ (uu f12b6.eq_1)<|ξ (uu f12b7.eq_1)<|ξ (vv f12r8.eq_1)<|ξ (uu f12b9.eq_1)<|ξ (uu f12b10.eq_1)<|ξ (vv f12r1.eq_1)<|ξ (uu f12b2.eq_1)<|ξ (vv f12r3.eq_1)<|ξ (uu f12b4.eq_1)<|ξ (vv f12r15.eq_1)<|uu f12b16.eq_1)
theorem Ψ12:type_of% Υ12.1:=Υ12.1
def f20r1:LA:=[θ 13 6,θ 4 13]
def f20b2:AQ:=ζ f20r1 .ret
def f20r3:LA:=[θ 8 0,θ 9 1,Ξ 10 32 8 9,θ 7 10,Δ 11 7 0,Δ 12 7 1,η (.alloc 5 73 [(.list 0 (some true) []),(.int .u64 0),(.int .u64 0)]),Φ 3 5 11,θ 6 12]
def f20b4:AQ:=ζ f20r3 (.frz 5 f20b2)
def f20r5:LA:=[η (.mov 4 (φ 0))]
def f20b6:AQ:=ζ f20r5 f20b4
def f20:AQ:=f20b6
theorem hf20:zH Tryz.prog 20=some ⟨14,f20.erase,[(RX.t 4)]⟩:=by kernel_rfl
theorem okf20:f20.ok=true:=by kernel_rfl
def Υ20:=PLift.up (ξ (uu f20.eq_1)<|ξ (vv f20r3.eq_1)<|ξ (uu f20b4.eq_1)<|ξ (vv f20r5.eq_1)<|ξ (uu f20b6.eq_1)<|ξ (vv f20r1.eq_1)<|uu f20b2.eq_1)
theorem Ψ20:type_of% Υ20.1:=Υ20.1
def f28r1:LA:=[η (.mov 4 (χ true))]
def f28b2:AQ:=ζ f28r1 .ret
def f28r3:LA:=[θ 16 5,η (.bin 17 .add (.t 16) (φ 1)),θ 5 17]
def f28r4:LA:=[η (.mov 4 (χ false))]
def f28b5:AQ:=ζ f28r4 .ret
def f28b6:AQ:=.cond (.t 84) f28b5 .skip
def f28r7:LA:=[θ 83 6,η (.un 84 .not (.t 83))]
def f28b8:AQ:=ζ f28r7 f28b6
def f28r9:LA:=[θ 28 7,η (.bin 29 .add (.t 28) (φ 1)),θ 7 29]
def f28r10:LA:=[θ 79 6,θ 80 79,zAA 80 (.mov 81 (.t 8)),η (.pick 82 (.t 80) (χ true) (.t 81)),θ 6 82]
def f28r11:LA:=[θ 43 9,η (.bin 44 .add (.t 43) (φ 1)),θ 9 44]
def f28r12:LA:=[θ 75 8,θ 76 75,kI 76 (.mov 77 (.t 10)),η (.pick 78 (.t 76) (.t 77) (χ false)),θ 8 78]
def f28r13:LA:=[θ 53 11,η (.bin 54 .add (.t 53) (φ 1)),θ 11 54]
def f28r14:LA:=[θ 55 10,θ 56 55,zAA 56 (.mov 57 (.t 0)),zAA 56 (.mov 58 (.t 5)),zAA 56 (.iaddr 59 3 (.t 57) (.t 58)),zAA 56 (.faddr 60 0 (.t 59)),zAA 56 (.load 61 1 false (.t 60)),zAA 56 (.mov 62 (.t 11)),zAA 56 (.iaddr 63 1 (.t 61) (.t 62)),zAA 56 (.load 64 1 false (.t 63)),zAA 56 (.mov 65 (.t 1)),zAA 56 (.mov 66 (.t 7)),zAA 56 (.iaddr 67 3 (.t 65) (.t 66)),zAA 56 (.faddr 68 0 (.t 67)),zAA 56 (.load 69 1 false (.t 68)),zAA 56 (.mov 70 (.t 9)),zAA 56 (.iaddr 71 1 (.t 69) (.t 70)),zAA 56 (.load 72 1 false (.t 71)),zAA 56 (.bin 73 .eql (.t 64) (.t 72)),η (.pick 74 (.t 56) (χ true) (.t 73)),θ 10 74]
def f28b15:AQ:=.block 7 (.draw f28r14 [[],[0],[1],[1],[2,3,1],[4,1],[5,1],[1],[6,7,1],[8,1],[1],[1],[10,11,1],[12,1],[13,1],[1],[14,15,1],[16,1],[9,17,1],[1,18],[19,1,0,1,2,3,4,5,6,7,8,9,10,11,12,13,14,15,16,17,18,19]])
def f28b16:AQ:=.seq f28b15 (.region f28r13)
def f28b17:AQ:=.cond (.t 52) .skip (.exit 6)
def f28r18:LA:=[θ 45 11,θ 46 0,θ 47 5,Ψ 48 3 46 47,Γ 49 0 48,ψ 50 1 49,Ω 51 50,vX 52 .lss 45 51]
def f28b19:AQ:=ζ f28r18 f28b17
def f28b20:AQ:=.seq f28b19 f28b16
def f28l21:AQ:=.loop [0,1,5,6,7,8,9,10,11] [] f28b20
def f28b22:AQ:=.block 6 f28l21
def f28r23:LA:=[η (.mov 11 (φ 0))]
def f28b24:AQ:=ζ f28r23 f28b22
def f28b25:AQ:=.seq f28b24 (.region f28r12)
def f28r26:LA:=[η (.mov 10 (χ false))]
def f28b27:AQ:=ζ f28r26 f28b25
def f28b28:AQ:=.block 5 f28b27
def f28b29:AQ:=.seq f28b28 (.region f28r11)
def f28b30:AQ:=.cond (.t 42) .skip (.exit 4)
def f28r31:LA:=[θ 35 9,θ 36 1,θ 37 7,Ψ 38 3 36 37,Γ 39 0 38,ψ 40 1 39,Ω 41 40,vX 42 .lss 35 41]
def f28b32:AQ:=ζ f28r31 f28b30
def f28b33:AQ:=.seq f28b32 f28b29
def f28l34:AQ:=.loop [0,1,5,6,7,8,9] [] f28b33
def f28b35:AQ:=.block 4 f28l34
def f28r36:LA:=[η (.mov 9 (φ 0))]
def f28b37:AQ:=ζ f28r36 f28b35
def f28b38:AQ:=.seq f28b37 (.region f28r10)
def f28r39:LA:=[θ 30 1,θ 31 7,Ψ 32 3 30 31,Γ 33 2 32,ψ 34 1 33,θ 8 34]
def f28b40:AQ:=ζ f28r39 f28b38
def f28b41:AQ:=.block 3 f28b40
def f28b42:AQ:=.seq f28b41 (.region f28r9)
def f28b43:AQ:=.cond (.t 27) .skip (.exit 2)
def f28r44:LA:=[θ 24 7,θ 25 1,Ω 26 25,vX 27 .lss 24 26]
def f28b45:AQ:=ζ f28r44 f28b43
def f28b46:AQ:=.seq f28b45 f28b42
def f28l47:AQ:=.loop [0,1,5,6,7] [] f28b46
def f28b48:AQ:=.block 2 f28l47
def f28r49:LA:=[η (.mov 7 (φ 0))]
def f28b50:AQ:=ζ f28r49 f28b48
def f28b51:AQ:=.seq f28b50 f28b8
def f28r52:LA:=[θ 18 0,θ 19 5,Ψ 20 3 18 19,Γ 21 2 20,ψ 22 1 21,η (.un 23 .not (.t 22)),θ 6 23]
def f28b53:AQ:=ζ f28r52 f28b51
def f28b54:AQ:=.block 1 f28b53
def f28b55:AQ:=.seq f28b54 (.region f28r3)
def f28b56:AQ:=.cond (.t 15) .skip (.exit 0)
def f28r57:LA:=[θ 12 5,θ 13 0,Ω 14 13,vX 15 .lss 12 14]
def f28b58:AQ:=ζ f28r57 f28b56
def f28b59:AQ:=.seq f28b58 f28b55
def f28l60:AQ:=.loop [0,1,5] [] f28b59
def f28b61:AQ:=.block 0 f28l60
def f28r62:LA:=[η (.mov 5 (φ 0))]
def f28b63:AQ:=ζ f28r62 f28b61
def f28b64:AQ:=.seq f28b63 f28b2
def f28r65:LA:=[η (.mov 4 (χ false))]
def f28b66:AQ:=ζ f28r65 f28b64
def f28:AQ:=f28b66
theorem hf28:zH Tryz.prog 28=some ⟨85,f28.erase,[(RX.t 4)]⟩:=by kernel_rfl
theorem okf28:f28.ok=true:=by kernel_rfl
def Υ28:=PLift.up (ξ (uu f28.eq_1)<|ξ (uu f28b61.eq_1)<|ξ (vv f28r62.eq_1)<|ξ (uu f28b63.eq_1)<|ξ (uu f28b64.eq_1)<|ξ (vv f28r65.eq_1)<|ξ (uu f28b66.eq_1)<|ξ (vv f28r3.eq_1)<|ξ (uu f28b48.eq_1)<|ξ (vv f28r49.eq_1)<|ξ (uu f28b50.eq_1)<|ξ (uu f28b51.eq_1)<|ξ (vv f28r52.eq_1)<|ξ (uu f28b53.eq_1)<|ξ (uu f28b54.eq_1)<|ξ (uu f28b55.eq_1)<|ξ (uu f28b56.eq_1)<|ξ (vv f28r57.eq_1)<|ξ (uu f28b58.eq_1)<|ξ (uu f28b59.eq_1)<|ξ (vv f28r9.eq_1)<|ξ (vv f28r10.eq_1)<|ξ (uu f28b35.eq_1)<|ξ (vv f28r36.eq_1)<|ξ (uu f28b37.eq_1)<|ξ (uu f28b38.eq_1)<|ξ (vv f28r39.eq_1)<|ξ (uu f28b40.eq_1)<|ξ (uu f28b41.eq_1)<|ξ (uu f28b42.eq_1)<|ξ (uu f28b43.eq_1)<|ξ (vv f28r44.eq_1)<|ξ (uu f28b45.eq_1)<|ξ (uu f28b46.eq_1)<|ξ (vv f28r11.eq_1)<|ξ (vv f28r12.eq_1)<|ξ (uu f28b22.eq_1)<|ξ (vv f28r23.eq_1)<|ξ (uu f28b24.eq_1)<|ξ (uu f28b25.eq_1)<|ξ (vv f28r26.eq_1)<|ξ (uu f28b27.eq_1)<|ξ (uu f28b28.eq_1)<|ξ (uu f28b29.eq_1)<|ξ (uu f28b30.eq_1)<|ξ (vv f28r31.eq_1)<|ξ (uu f28b32.eq_1)<|ξ (uu f28b33.eq_1)<|ξ (vv f28r13.eq_1)<|ξ (vv f28r14.eq_1)<|ξ (uu f28b15.eq_1)<|ξ (uu f28b16.eq_1)<|ξ (uu f28b17.eq_1)<|ξ (vv f28r18.eq_1)<|ξ (uu f28b19.eq_1)<|ξ (uu f28b20.eq_1)<|ξ (uu f28b6.eq_1)<|ξ (vv f28r7.eq_1)<|ξ (uu f28b8.eq_1)<|ξ (vv f28r4.eq_1)<|ξ (uu f28b5.eq_1)<|ξ (vv f28r1.eq_1)<|uu f28b2.eq_1)
theorem Ψ28:type_of% Υ28.1:=Υ28.1
def f29r1:LA:=[θ 18 4,ω 19 2 2,ω 20 2 3,η (.bslice 21 107 2 [(.str []),(.list 0 (some true) [])] 2 [(0,(.t 19)),(1,(.t 20))]),η (.build 22 [(.str []),(.list 0 (some true) [])] [(0,(1,(.v (.k (.c (.str [105,110,118,111,105,99,101])))))),(1,(1,(.t 21)))]),η (.bslice 23 58 2 [(.str []),(.list 0 (some true) [])] 1 [(0,(.t 22))]),θ 0 18,θ 1 23]
def f29b2:AQ:=.seq (.draw f29r1 [[],[],[],[1,2],[3],[4],[0,0],[5,6,0,1,2,3,4,5,6]]) .ret
def f29r3:LA:=[η (.build 13 [(.int .i64 0),(.str []),(.str []),(.str []),(.str []),(.str []),(.int .i64 0),(.int .i64 0)] [(0,(1,(φ 2))),(1,(1,(.v (.k (.c (.str [105,110,118,111,105,99,101])))))),(2,(1,(.v (.k (.c (.str [115,117,109])))))),(6,(1,(φ 50))),(7,(1,(φ 150)))]),η (.build 14 [(.int .i64 0),(.str []),(.str []),(.str []),(.str []),(.str []),(.int .i64 0),(.int .i64 0)] [(0,(1,(φ 2))),(1,(1,(.v (.k (.c (.str [105,110,118,111,105,99,101])))))),(2,(1,(.v (.k (.c (.str [115,117,109])))))),(6,(1,(φ 600))),(7,(1,(φ 800)))]),η (.build 15 [(.int .i64 0),(.str []),(.str []),(.str []),(.str []),(.str []),(.int .i64 0),(.int .i64 0)] [(0,(1,(φ 1))),(1,(1,(.v (.k (.c (.str [105,110,118,111,105,99,101])))))),(2,(1,(.v (.k (.c (.str [112,111,114,116])))))),(5,(1,(.v (.k (.c (.str [71,101,110,111,97]))))))]),η (.build 16 [(.int .i64 0),(.str []),(.str []),(.str []),(.str []),(.str []),(.int .i64 0),(.int .i64 0)] [(0,(1,(φ 0))),(1,(1,(.v (.k (.c (.str [112,97,99,107,105,110,103]))))))]),η (.bslice 17 46 8 [(.int .i64 0),(.str []),(.str []),(.str []),(.str []),(.str []),(.int .i64 0),(.int .i64 0)] 4 [(0,(.t 13)),(1,(.t 14)),(2,(.t 15)),(3,(.t 16))])]
def f29r4:LA:=[θ 4 17]
def f29b5:AQ:=.seq (.regf f29r3 [17] f29r4) f29b2
def f29r6:LA:=[η (.bslice 9 9 1 [(.str [])] 1 [(0,(.v (.k (.c (.str [71,101,110,111,97])))))])]
def f29r7:LA:=[η (.build 10 [(.list 0 (some true) [])] [(0,(1,(.t 9)))]),η (.bslice 11 109 1 [(.list 0 (some true) [])] 1 [(0,(.t 10))])]
def f29r8:LA:=[η (.build 12 [(.str []),(.list 0 (some true) [])] [(0,(1,(.v (.k (.c (.str [112,111,114,116])))))),(1,(1,(.t 11)))]),η (.alloc 3 107 [(.str []),(.list 0 (some true) [])]),Φ 2 3 12]
def f29b9:AQ:=.seq (.regs [(f29r6,[9]),(f29r7,[11]),(f29r8,[])]) (.frz 3 f29b5)
def f29r10:LA:=[η (.bslice 5 9 1 [(.str [])] 2 [(0,(.v (.k (.c (.str [49,48,48]))))),(1,(.v (.k (.c (.str [55,48,48])))))])]
def f29r11:LA:=[η (.build 6 [(.list 0 (some true) [])] [(0,(1,(.t 5)))]),η (.bslice 7 109 1 [(.list 0 (some true) [])] 1 [(0,(.t 6))])]
def f29r12:LA:=[η (.build 8 [(.str []),(.list 0 (some true) [])] [(0,(1,(.v (.k (.c (.str [115,117,109])))))),(1,(1,(.t 7)))]),η (.alloc 2 107 [(.str []),(.list 0 (some true) [])]),Φ 2 2 8]
def f29b13:AQ:=.seq (.regs [(f29r10,[5]),(f29r11,[7]),(f29r12,[])]) (.frz 2 f29b9)
def f29r14:LA:=[η (.nilL 0 46 8),η (.nilL 1 58 2)]
def f29b15:AQ:=ζ f29r14 f29b13
def f29:AQ:=f29b15
theorem hf29:zH Tryz.prog 29=some ⟨24,f29.erase,[(RX.t 0),(RX.t 1)]⟩:=by kernel_rfl
theorem okf29:f29.ok=true:=by kernel_rfl
def Υ29:=PLift.up (ξ (uu f29.eq_1)<|ξ (vv f29r1.eq_1)<|ξ (uu f29b2.eq_1)<|ξ (vv f29r3.eq_1)<|ξ (vv f29r4.eq_1)<|ξ (uu f29b5.eq_1)<|ξ (vv f29r6.eq_1)<|ξ (vv f29r7.eq_1)<|ξ (vv f29r8.eq_1)<|ξ (uu f29b9.eq_1)<|ξ (vv f29r10.eq_1)<|ξ (vv f29r11.eq_1)<|ξ (vv f29r12.eq_1)<|ξ (uu f29b13.eq_1)<|ξ (vv f29r14.eq_1)<|uu f29b15.eq_1)
theorem Ψ29:type_of% Υ29.1:=Υ29.1
def f25r1:LA:=[η (.mov 4 (χ true))]
def f25b2:AQ:=ζ f25r1 .ret
def f25r3:LA:=[θ 15 5,η (.bin 16 .add (.t 15) (φ 1)),θ 5 16]
def f25r4:LA:=[η (.mov 4 (χ false))]
def f25b5:AQ:=ζ f25r4 .ret
def f25b6:AQ:=.cond (.t 55) f25b5 .skip
def f25r7:LA:=[θ 17 0,θ 18 5,Ψ 19 3 17 18,Γ 20 2 19,ψ 21 1 20,θ 22 1,θ 23 5,Ψ 24 3 22 23,Γ 25 2 24,ψ 26 1 25,η (.binB 27 true (.t 21) (.t 26)),θ 28 27,zAA 28 (.mov 29 (.t 0)),zAA 28 (.mov 30 (.t 5)),zAA 28 (.iaddr 31 3 (.t 29) (.t 30)),zAA 28 (.faddr 32 0 (.t 31)),zAA 28 (.load 33 1 false (.t 32)),zAA 28 (.mov 34 (.t 1)),zAA 28 (.mov 35 (.t 5)),zAA 28 (.iaddr 36 3 (.t 34) (.t 35)),zAA 28 (.faddr 37 0 (.t 36)),zAA 28 (.load 38 1 false (.t 37)),zAA 28 (.call (some 39) 52 [(.t 33),(.t 38)]),zAA 28 (.un 40 .not (.t 39)),η (.pick 41 (.t 28) (χ true) (.t 40)),θ 42 41,zAA 42 (.mov 43 (.t 0)),zAA 42 (.mov 44 (.t 5)),zAA 42 (.iaddr 45 3 (.t 43) (.t 44)),zAA 42 (.faddr 46 1 (.t 45)),zAA 42 (.load 47 1 false (.t 46)),zAA 42 (.mov 48 (.t 1)),zAA 42 (.mov 49 (.t 5)),zAA 42 (.iaddr 50 3 (.t 48) (.t 49)),zAA 42 (.faddr 51 1 (.t 50)),zAA 42 (.load 52 1 false (.t 51)),zAA 42 (.call (some 53) 53 [(.t 47),(.t 52)]),zAA 42 (.un 54 .not (.t 53)),η (.pick 55 (.t 42) (χ true) (.t 54))]
def f25b8:AQ:=.seq (.draw f25r7 [[],[],[0,1],[2],[3],[],[],[5,6],[7],[8],[4,9],[10],[11],[11],[12,13,11],[14,11],[15,11],[11],[11],[17,18,11],[19,11],[20,11],[16,21,11,11],[22,11],[11,23],[24,22],[25],[25],[26,27,25],[28,25],[29,25],[25],[25],[31,32,25],[33,25],[34,25],[30,35,25,25],[36,25],[25,37]]) f25b6
def f25b9:AQ:=.block 1 f25b8
def f25b10:AQ:=.seq f25b9 (.region f25r3)
def f25b11:AQ:=.cond (.t 14) .skip (.exit 0)
def f25r12:LA:=[θ 11 5,θ 12 0,Ω 13 12,vX 14 .lss 11 13]
def f25b13:AQ:=ζ f25r12 f25b11
def f25b14:AQ:=.seq f25b13 f25b10
def f25l15:AQ:=.loop [0,1,5] [] f25b14
def f25b16:AQ:=.block 0 f25l15
def f25r17:LA:=[η (.mov 5 (φ 0))]
def f25b18:AQ:=ζ f25r17 f25b16
def f25b19:AQ:=.seq f25b18 f25b2
def f25r20:LA:=[η (.mov 4 (χ false))]
def f25b21:AQ:=ζ f25r20 .ret
def f25b22:AQ:=.cond (.t 10) f25b21 .skip
def f25r23:LA:=[θ 6 0,Ω 7 6,θ 8 1,Ω 9 8,vX 10 .neq 7 9]
def f25b24:AQ:=ζ f25r23 f25b22
def f25b25:AQ:=.seq f25b24 f25b19
def f25r26:LA:=[η (.mov 4 (χ false))]
def f25b27:AQ:=ζ f25r26 f25b25
def f25:AQ:=f25b27
theorem hf25:zH Tryz.prog 25=some ⟨56,f25.erase,[(RX.t 4)]⟩:=by kernel_rfl
theorem okf25:f25.ok=true:=by kernel_rfl
def Υ25:=PLift.up (ξ (uu f25.eq_1)<|ξ (uu f25b16.eq_1)<|ξ (vv f25r17.eq_1)<|ξ (uu f25b18.eq_1)<|ξ (uu f25b19.eq_1)<|ξ (vv f25r20.eq_1)<|ξ (uu f25b21.eq_1)<|ξ (uu f25b22.eq_1)<|ξ (vv f25r23.eq_1)<|ξ (uu f25b24.eq_1)<|ξ (uu f25b25.eq_1)<|ξ (vv f25r26.eq_1)<|ξ (uu f25b27.eq_1)<|ξ (vv f25r3.eq_1)<|ξ (vv f25r7.eq_1)<|ξ (uu f25b8.eq_1)<|ξ (uu f25b9.eq_1)<|ξ (uu f25b10.eq_1)<|ξ (uu f25b11.eq_1)<|ξ (vv f25r12.eq_1)<|ξ (uu f25b13.eq_1)<|ξ (uu f25b14.eq_1)<|ξ (uu f25b6.eq_1)<|ξ (vv f25r4.eq_1)<|ξ (uu f25b5.eq_1)<|ξ (vv f25r1.eq_1)<|uu f25b2.eq_1)
theorem Ψ25:type_of% Υ25.1:=Υ25.1
def f52r1:LA:=[η (.mov 4 (χ true))]
def f52b2:AQ:=ζ f52r1 .ret
def f52r3:LA:=[θ 15 5,η (.bin 16 .add (.t 15) (φ 1)),θ 5 16]
def f52r4:LA:=[η (.mov 4 (χ false))]
def f52b5:AQ:=ζ f52r4 .ret
def f52b6:AQ:=.cond (.t 25) f52b5 .skip
def f52r7:LA:=[θ 17 0,θ 18 5,Ψ 19 1 17 18,ψ 20 1 19,θ 21 1,θ 22 5,Ψ 23 1 21 22,ψ 24 1 23,vX 25 .neq 20 24]
def f52b8:AQ:=.seq (.draw f52r7 [[],[],[0,1],[2],[],[],[4,5],[6],[3,7]]) f52b6
def f52b9:AQ:=.block 1 f52b8
def f52b10:AQ:=.seq f52b9 (.region f52r3)
def f52b11:AQ:=.cond (.t 14) .skip (.exit 0)
def f52r12:LA:=[θ 11 5,θ 12 0,Ω 13 12,vX 14 .lss 11 13]
def f52b13:AQ:=ζ f52r12 f52b11
def f52b14:AQ:=.seq f52b13 f52b10
def f52l15:AQ:=.loop [0,1,5] [] f52b14
def f52b16:AQ:=.block 0 f52l15
def f52r17:LA:=[η (.mov 5 (φ 0))]
def f52b18:AQ:=ζ f52r17 f52b16
def f52b19:AQ:=.seq f52b18 f52b2
def f52r20:LA:=[η (.mov 4 (χ false))]
def f52b21:AQ:=ζ f52r20 .ret
def f52b22:AQ:=.cond (.t 10) f52b21 .skip
def f52r23:LA:=[θ 6 0,Ω 7 6,θ 8 1,Ω 9 8,vX 10 .neq 7 9]
def f52b24:AQ:=ζ f52r23 f52b22
def f52b25:AQ:=.seq f52b24 f52b19
def f52r26:LA:=[η (.mov 4 (χ false))]
def f52b27:AQ:=ζ f52r26 f52b25
def f52:AQ:=f52b27
theorem hf52:zH Tryz.prog 52=some ⟨26,f52.erase,[(RX.t 4)]⟩:=by kernel_rfl
theorem okf52:f52.ok=true:=by kernel_rfl
def Υ52:=PLift.up (ξ (uu f52.eq_1)<|ξ (uu f52b16.eq_1)<|ξ (vv f52r17.eq_1)<|ξ (uu f52b18.eq_1)<|ξ (uu f52b19.eq_1)<|ξ (vv f52r20.eq_1)<|ξ (uu f52b21.eq_1)<|ξ (uu f52b22.eq_1)<|ξ (vv f52r23.eq_1)<|ξ (uu f52b24.eq_1)<|ξ (uu f52b25.eq_1)<|ξ (vv f52r26.eq_1)<|ξ (uu f52b27.eq_1)<|ξ (vv f52r3.eq_1)<|ξ (vv f52r4.eq_1)<|ξ (uu f52b5.eq_1)<|ξ (uu f52b6.eq_1)<|ξ (vv f52r7.eq_1)<|ξ (uu f52b8.eq_1)<|ξ (uu f52b9.eq_1)<|ξ (uu f52b10.eq_1)<|ξ (uu f52b11.eq_1)<|ξ (vv f52r12.eq_1)<|ξ (uu f52b13.eq_1)<|ξ (uu f52b14.eq_1)<|ξ (vv f52r1.eq_1)<|uu f52b2.eq_1)
theorem Ψ52:type_of% Υ52.1:=Υ52.1
def f53r1:LA:=[η (.mov 4 (χ true))]
def f53b2:AQ:=ζ f53r1 .ret
def f53r3:LA:=[θ 15 5,η (.bin 16 .add (.t 15) (φ 1)),θ 5 16]
def f53r4:LA:=[η (.mov 4 (χ false))]
def f53b5:AQ:=ζ f53r4 .ret
def f53b6:AQ:=.cond (.t 25) f53b5 .skip
def f53r7:LA:=[θ 17 0,θ 18 5,Ψ 19 2 17 18,ω 20 2 19,θ 21 1,θ 22 5,Ψ 23 2 21 22,ω 24 2 23,η (.eqAgg 25 true [.int,.int] (.t 20) (.t 24))]
def f53b8:AQ:=.seq (.draw f53r7 [[],[],[0,1],[2],[],[],[4,5],[6],[3,7]]) f53b6
def f53b9:AQ:=.block 1 f53b8
def f53b10:AQ:=.seq f53b9 (.region f53r3)
def f53b11:AQ:=.cond (.t 14) .skip (.exit 0)
def f53r12:LA:=[θ 11 5,θ 12 0,Ω 13 12,vX 14 .lss 11 13]
def f53b13:AQ:=ζ f53r12 f53b11
def f53b14:AQ:=.seq f53b13 f53b10
def f53l15:AQ:=.loop [0,1,5] [] f53b14
def f53b16:AQ:=.block 0 f53l15
def f53r17:LA:=[η (.mov 5 (φ 0))]
def f53b18:AQ:=ζ f53r17 f53b16
def f53b19:AQ:=.seq f53b18 f53b2
def f53r20:LA:=[η (.mov 4 (χ false))]
def f53b21:AQ:=ζ f53r20 .ret
def f53b22:AQ:=.cond (.t 10) f53b21 .skip
def f53r23:LA:=[θ 6 0,Ω 7 6,θ 8 1,Ω 9 8,vX 10 .neq 7 9]
def f53b24:AQ:=ζ f53r23 f53b22
def f53b25:AQ:=.seq f53b24 f53b19
def f53r26:LA:=[η (.mov 4 (χ false))]
def f53b27:AQ:=ζ f53r26 f53b25
def f53:AQ:=f53b27
theorem hf53:zH Tryz.prog 53=some ⟨26,f53.erase,[(RX.t 4)]⟩:=by kernel_rfl
theorem okf53:f53.ok=true:=by kernel_rfl
def Υ53:=PLift.up (ξ (uu f53.eq_1)<|ξ (uu f53b16.eq_1)<|ξ (vv f53r17.eq_1)<|ξ (uu f53b18.eq_1)<|ξ (uu f53b19.eq_1)<|ξ (vv f53r20.eq_1)<|ξ (uu f53b21.eq_1)<|ξ (uu f53b22.eq_1)<|ξ (vv f53r23.eq_1)<|ξ (uu f53b24.eq_1)<|ξ (uu f53b25.eq_1)<|ξ (vv f53r26.eq_1)<|ξ (uu f53b27.eq_1)<|ξ (vv f53r3.eq_1)<|ξ (uu f53b6.eq_1)<|ξ (vv f53r7.eq_1)<|ξ (uu f53b8.eq_1)<|ξ (uu f53b9.eq_1)<|ξ (uu f53b10.eq_1)<|ξ (uu f53b11.eq_1)<|ξ (vv f53r12.eq_1)<|ξ (uu f53b13.eq_1)<|ξ (uu f53b14.eq_1)<|ξ (vv f53r4.eq_1)<|ξ (uu f53b5.eq_1)<|ξ (vv f53r1.eq_1)<|uu f53b2.eq_1)
theorem Ψ53:type_of% Υ53.1:=Υ53.1
def f9r1:LA:=[θ 42 7,η (.bin 43 .neq (.t 42) (φ 0)),θ 44 43,zAA 44 (.mov 45 (.t 6)),zAA 44 (.bin 46 .leq (.t 45) (φ 128)),η (.pick 47 (.t 44) (χ true) (.t 46)),θ 4 47]
def f9b2:AQ:=ζ f9r1 .ret
def f9r3:LA:=[θ 38 1,Θ 39 18 38,θ 37 39,Δ 40 37 0,Δ 41 37 1,θ 6 40,θ 7 41]
def f9b4:AQ:=ζ f9r3 f9b2
def f9r5:LA:=[η (.mov 4 (χ false))]
def f9b6:AQ:=ζ f9r5 .ret
def f9b7:AQ:=.cond (.t 36) f9b6 .skip
def f9r8:LA:=[θ 24 0,Ω 25 24,η (.bin 26 .gtr (.t 25) (φ 8)),θ 27 26,zAA 27 (.mov 28 (.t 1)),zAA 27 (.len 29 (.t 28)),zAA 27 (.bin 30 .gtr (.t 29) (φ 12)),η (.pick 31 (.t 27) (χ true) (.t 30)),θ 32 31,zAA 32 (.mov 33 (.t 0)),zAA 32 (.call (some 34) 31 [(.t 33)]),zAA 32 (.un 35 .not (.t 34)),η (.pick 36 (.t 32) (χ true) (.t 35))]
def f9b9:AQ:=ζ f9r8 f9b7
def f9b10:AQ:=.seq f9b9 f9b4
def f9r11:LA:=[θ 16 5,η (.bin 17 .add (.t 16) (φ 1)),θ 5 17]
def f9r12:LA:=[η (.mov 4 (χ false))]
def f9b13:AQ:=ζ f9r12 .ret
def f9b14:AQ:=.cond (.t 23) f9b13 .skip
def f9r15:LA:=[θ 18 1,θ 19 5,Ψ 20 2 18 19,ω 21 2 20,Θ 22 30 21,η (.un 23 .not (.t 22))]
def f9b16:AQ:=ζ f9r15 f9b14
def f9b17:AQ:=.block 1 f9b16
def f9b18:AQ:=.seq f9b17 (.region f9r11)
def f9b19:AQ:=.cond (.t 15) .skip (.exit 0)
def f9r20:LA:=[θ 8 5,θ 9 1,Ω 10 9,vX 11 .lss 8 10,θ 12 11,kI 12 (.mov 13 (.t 5)),kI 12 (.bin 14 .lss (.t 13) (φ 12)),η (.pick 15 (.t 12) (.t 14) (χ false))]
def f9b21:AQ:=ζ f9r20 f9b19
def f9b22:AQ:=.seq f9b21 f9b18
def f9l23:AQ:=.loop [0,1,5] [] f9b22
def f9b24:AQ:=.block 0 f9l23
def f9r25:LA:=[η (.mov 5 (φ 0))]
def f9b26:AQ:=ζ f9r25 f9b24
def f9b27:AQ:=.seq f9b26 f9b10
def f9r28:LA:=[η (.mov 4 (χ false))]
def f9b29:AQ:=ζ f9r28 f9b27
def f9:AQ:=f9b29
theorem hf9:zH Tryz.prog 9=some ⟨48,f9.erase,[(RX.t 4)]⟩:=by kernel_rfl
theorem okf9:f9.ok=true:=by kernel_rfl
def Υ9:=PLift.up (ξ (uu f9.eq_1)<|ξ (uu f9b24.eq_1)<|ξ (vv f9r25.eq_1)<|ξ (uu f9b26.eq_1)<|ξ (uu f9b27.eq_1)<|ξ (vv f9r28.eq_1)<|ξ (uu f9b29.eq_1)<|ξ (vv f9r11.eq_1)<|ξ (vv f9r15.eq_1)<|ξ (uu f9b16.eq_1)<|ξ (uu f9b17.eq_1)<|ξ (uu f9b18.eq_1)<|ξ (uu f9b19.eq_1)<|ξ (vv f9r20.eq_1)<|ξ (uu f9b21.eq_1)<|ξ (uu f9b22.eq_1)<|ξ (uu f9b14.eq_1)<|ξ (vv f9r12.eq_1)<|ξ (uu f9b13.eq_1)<|ξ (vv f9r5.eq_1)<|ξ (uu f9b6.eq_1)<|ξ (uu f9b7.eq_1)<|ξ (vv f9r8.eq_1)<|ξ (uu f9b9.eq_1)<|ξ (uu f9b10.eq_1)<|ξ (vv f9r3.eq_1)<|ξ (uu f9b4.eq_1)<|ξ (vv f9r1.eq_1)<|uu f9b2.eq_1)
theorem Ψ9:type_of% Υ9.1:=Υ9.1
def f30r1:LA:=[η (.mov 2 (χ true))]
def f30b2:AQ:=ζ f30r1 .ret
def f30r3:LA:=[θ 22 3,η (.bin 23 .add (.t 22) (φ 1)),θ 3 23]
def f30r4:LA:=[θ 51 4,η (.bin 52 .add (.t 51) (φ 1)),θ 4 52]
def f30r5:LA:=[θ 70 6,η (.bin 71 .add (.t 70) (φ 1)),θ 6 71]
def f30r6:LA:=[η (.mov 2 (χ false))]
def f30b7:AQ:=ζ f30r6 .ret
def f30b8:AQ:=.cond (.t 77) f30b7 .skip
def f30r9:LA:=[θ 72 5,θ 73 6,Ψ 74 1 72 73,ψ 75 1 74,η (.lenS 76 (.t 75)),η (.bin 77 .gtr (.t 76) (φ 100))]
def f30b10:AQ:=ζ f30r9 f30b8
def f30b11:AQ:=.block 5 f30b10
def f30b12:AQ:=.seq f30b11 (.region f30r5)
def f30b13:AQ:=.cond (.t 69) .skip (.exit 4)
def f30r14:LA:=[θ 66 6,θ 67 5,Ω 68 67,vX 69 .lss 66 68]
def f30b15:AQ:=ζ f30r14 f30b13
def f30b16:AQ:=.seq f30b15 f30b12
def f30l17:AQ:=.loop [1,3,4,5,6] [1] f30b16
def f30b18:AQ:=.block 4 f30l17
def f30r19:LA:=[η (.mov 6 (φ 0))]
def f30b20:AQ:=ζ f30r19 f30b18
def f30r21:LA:=[η (.mov 2 (χ false))]
def f30b22:AQ:=ζ f30r21 .ret
def f30b23:AQ:=.cond (.t 65) f30b22 .skip
def f30r24:LA:=[θ 63 5,Ω 64 63,η (.bin 65 .gtr (.t 64) (φ 6))]
def f30b25:AQ:=ζ f30r24 f30b23
def f30b26:AQ:=.seq f30b25 f30b20
def f30r27:LA:=[Γ 53 1 1,ψ 54 1 53,θ 55 3,Ψ 56 2 54 55,Γ 57 1 56,ψ 58 1 57,θ 59 4,Ψ 60 1 58 59,Γ 61 0 60,ψ 62 1 61,θ 5 62]
def f30b28:AQ:=ζ f30r27 f30b26
def f30b29:AQ:=.block 3 f30b28
def f30b30:AQ:=.seq f30b29 (.region f30r4)
def f30b31:AQ:=.cond (.t 50) .skip (.exit 2)
def f30r32:LA:=[θ 42 4,Γ 43 1 1,ψ 44 1 43,θ 45 3,Ψ 46 2 44 45,Γ 47 1 46,ψ 48 1 47,Ω 49 48,vX 50 .lss 42 49]
def f30b33:AQ:=ζ f30r32 f30b31
def f30b34:AQ:=.seq f30b33 f30b30
def f30l35:AQ:=.loop [1,3,4] [1] f30b34
def f30b36:AQ:=.block 2 f30l35
def f30r37:LA:=[η (.mov 4 (φ 0))]
def f30b38:AQ:=ζ f30r37 f30b36
def f30r39:LA:=[η (.mov 2 (χ false))]
def f30b40:AQ:=ζ f30r39 .ret
def f30b41:AQ:=.cond (.t 41) f30b40 .skip
def f30r42:LA:=[Γ 24 1 1,ψ 25 1 24,θ 26 3,Ψ 27 2 25 26,Γ 28 1 27,ψ 29 1 28,Ω 30 29,η (.bin 31 .gtr (.t 30) (φ 10)),θ 32 31,zAA 32 (.faddr 33 1 (.t 1)),zAA 32 (.load 34 1 false (.t 33)),zAA 32 (.mov 35 (.t 3)),zAA 32 (.iaddr 36 2 (.t 34) (.t 35)),zAA 32 (.faddr 37 0 (.t 36)),zAA 32 (.load 38 1 false (.t 37)),zAA 32 (.lenS 39 (.t 38)),zAA 32 (.bin 40 .gtr (.t 39) (φ 100)),η (.pick 41 (.t 32) (χ true) (.t 40))]
def f30b43:AQ:=ζ f30r42 f30b41
def f30b44:AQ:=.seq f30b43 f30b38
def f30b45:AQ:=.block 1 f30b44
def f30b46:AQ:=.seq f30b45 (.region f30r3)
def f30b47:AQ:=.cond (.t 21) .skip (.exit 0)
def f30r48:LA:=[θ 17 3,Γ 18 1 1,ψ 19 1 18,Ω 20 19,vX 21 .lss 17 20]
def f30b49:AQ:=ζ f30r48 f30b47
def f30b50:AQ:=.seq f30b49 f30b46
def f30l51:AQ:=.loop [1,3] [1] f30b50
def f30b52:AQ:=.block 0 f30l51
def f30r53:LA:=[η (.mov 3 (φ 0))]
def f30b54:AQ:=ζ f30r53 f30b52
def f30b55:AQ:=.seq f30b54 f30b2
def f30r56:LA:=[η (.mov 2 (χ false))]
def f30b57:AQ:=ζ f30r56 .ret
def f30b58:AQ:=.cond (.t 16) f30b57 .skip
def f30r59:LA:=[Γ 7 1 1,ψ 8 1 7,Ω 9 8,η (.bin 10 .gtr (.t 9) (φ 14)),θ 11 10,zAA 11 (.faddr 12 0 (.t 1)),zAA 11 (.load 13 1 false (.t 12)),zAA 11 (.lenS 14 (.t 13)),zAA 11 (.bin 15 .gtr (.t 14) (φ 100)),η (.pick 16 (.t 11) (χ true) (.t 15))]
def f30b60:AQ:=ζ f30r59 f30b58
def f30b61:AQ:=.seq f30b60 f30b55
def f30r62:LA:=[xB 1 58 0,η (.mov 2 (χ false))]
def f30b63:AQ:=ζ f30r62 (.frz 1 f30b61)
def f30:AQ:=f30b63
theorem hf30:zH Tryz.prog 30=some ⟨78,f30.erase,[(RX.t 2)]⟩:=by kernel_rfl
theorem okf30:f30.ok=true:=by kernel_rfl
def Υ30:=PLift.up (ξ (uu f30.eq_1)<|ξ (uu f30b52.eq_1)<|ξ (vv f30r53.eq_1)<|ξ (uu f30b54.eq_1)<|ξ (uu f30b55.eq_1)<|ξ (uu f30b58.eq_1)<|ξ (vv f30r59.eq_1)<|ξ (uu f30b60.eq_1)<|ξ (uu f30b61.eq_1)<|ξ (vv f30r62.eq_1)<|ξ (uu f30b63.eq_1)<|ξ (vv f30r3.eq_1)<|ξ (uu f30b36.eq_1)<|ξ (vv f30r37.eq_1)<|ξ (uu f30b38.eq_1)<|ξ (uu f30b41.eq_1)<|ξ (vv f30r42.eq_1)<|ξ (uu f30b43.eq_1)<|ξ (uu f30b44.eq_1)<|ξ (uu f30b45.eq_1)<|ξ (uu f30b46.eq_1)<|ξ (uu f30b47.eq_1)<|ξ (vv f30r48.eq_1)<|ξ (uu f30b49.eq_1)<|ξ (uu f30b50.eq_1)<|ξ (vv f30r4.eq_1)<|ξ (uu f30b18.eq_1)<|ξ (vv f30r19.eq_1)<|ξ (uu f30b20.eq_1)<|ξ (uu f30b23.eq_1)<|ξ (vv f30r24.eq_1)<|ξ (uu f30b25.eq_1)<|ξ (uu f30b26.eq_1)<|ξ (vv f30r27.eq_1)<|ξ (uu f30b28.eq_1)<|ξ (uu f30b29.eq_1)<|ξ (uu f30b30.eq_1)<|ξ (uu f30b31.eq_1)<|ξ (vv f30r32.eq_1)<|ξ (uu f30b33.eq_1)<|ξ (uu f30b34.eq_1)<|ξ (vv f30r5.eq_1)<|ξ (uu f30b8.eq_1)<|ξ (vv f30r9.eq_1)<|ξ (uu f30b10.eq_1)<|ξ (uu f30b11.eq_1)<|ξ (uu f30b12.eq_1)<|ξ (uu f30b13.eq_1)<|ξ (vv f30r14.eq_1)<|ξ (uu f30b15.eq_1)<|ξ (uu f30b16.eq_1)<|ξ (vv f30r6.eq_1)<|ξ (uu f30b7.eq_1)<|ξ (vv f30r21.eq_1)<|ξ (uu f30b22.eq_1)<|ξ (vv f30r39.eq_1)<|ξ (uu f30b40.eq_1)<|ξ (vv f30r1.eq_1)<|ξ (uu f30b2.eq_1)<|ξ (vv f30r56.eq_1)<|uu f30b57.eq_1)
theorem Ψ30:type_of% Υ30.1:=Υ30.1
def f31r1:LA:=[θ 57 0,Ω 58 57,η (.bin 59 .leq (.t 58) (φ 30)),θ 2 59]
def f31b2:AQ:=ζ f31r1 .ret
def f31r3:LA:=[θ 12 3,η (.bin 13 .add (.t 12) (φ 1)),θ 3 13]
def f31r4:LA:=[η (.mov 2 (χ false))]
def f31b5:AQ:=ζ f31r4 .ret
def f31b6:AQ:=.cond (.t 56) f31b5 .skip
def f31r7:LA:=[θ 14 0,θ 15 3,Ψ 16 8 14 15,Γ 17 5 16,ψ 18 1 17,η (.lenS 19 (.t 18)),η (.bin 20 .gtr (.t 19) (φ 500)),θ 21 20,zAA 21 (.mov 22 (.t 0)),zAA 21 (.mov 23 (.t 3)),zAA 21 (.iaddr 24 8 (.t 22) (.t 23)),zAA 21 (.faddr 25 1 (.t 24)),zAA 21 (.load 26 1 false (.t 25)),zAA 21 (.lenS 27 (.t 26)),zAA 21 (.bin 28 .gtr (.t 27) (φ 60)),η (.pick 29 (.t 21) (χ true) (.t 28)),θ 30 29,zAA 30 (.mov 31 (.t 0)),zAA 30 (.mov 32 (.t 3)),zAA 30 (.iaddr 33 8 (.t 31) (.t 32)),zAA 30 (.faddr 34 2 (.t 33)),zAA 30 (.load 35 1 false (.t 34)),zAA 30 (.lenS 36 (.t 35)),zAA 30 (.bin 37 .gtr (.t 36) (φ 60)),η (.pick 38 (.t 30) (χ true) (.t 37)),θ 39 38,zAA 39 (.mov 40 (.t 0)),zAA 39 (.mov 41 (.t 3)),zAA 39 (.iaddr 42 8 (.t 40) (.t 41)),zAA 39 (.faddr 43 3 (.t 42)),zAA 39 (.load 44 1 false (.t 43)),zAA 39 (.lenS 45 (.t 44)),zAA 39 (.bin 46 .gtr (.t 45) (φ 60)),η (.pick 47 (.t 39) (χ true) (.t 46)),θ 48 47,zAA 48 (.mov 49 (.t 0)),zAA 48 (.mov 50 (.t 3)),zAA 48 (.iaddr 51 8 (.t 49) (.t 50)),zAA 48 (.faddr 52 4 (.t 51)),zAA 48 (.load 53 1 false (.t 52)),zAA 48 (.lenS 54 (.t 53)),zAA 48 (.bin 55 .gtr (.t 54) (φ 60)),η (.pick 56 (.t 48) (χ true) (.t 55))]
def f31b8:AQ:=ζ f31r7 f31b6
def f31b9:AQ:=.block 1 f31b8
def f31b10:AQ:=.seq f31b9 (.region f31r3)
def f31b11:AQ:=.cond (.t 11) .skip (.exit 0)
def f31r12:LA:=[θ 4 3,θ 5 0,Ω 6 5,vX 7 .lss 4 6,θ 8 7,kI 8 (.mov 9 (.t 3)),kI 8 (.bin 10 .lss (.t 9) (φ 40)),η (.pick 11 (.t 8) (.t 10) (χ false))]
def f31b13:AQ:=ζ f31r12 f31b11
def f31b14:AQ:=.seq f31b13 f31b10
def f31l15:AQ:=.loop [0,3] [] f31b14
def f31b16:AQ:=.block 0 f31l15
def f31r17:LA:=[η (.mov 3 (φ 0))]
def f31b18:AQ:=ζ f31r17 f31b16
def f31b19:AQ:=.seq f31b18 f31b2
def f31r20:LA:=[η (.mov 2 (χ false))]
def f31b21:AQ:=ζ f31r20 f31b19
def f31:AQ:=f31b21
theorem hf31:zH Tryz.prog 31=some ⟨60,f31.erase,[(RX.t 2)]⟩:=by kernel_rfl
theorem okf31:f31.ok=true:=by kernel_rfl
def Υ31:=PLift.up (ξ (uu f31.eq_1)<|ξ (uu f31b16.eq_1)<|ξ (vv f31r17.eq_1)<|ξ (uu f31b18.eq_1)<|ξ (uu f31b19.eq_1)<|ξ (vv f31r20.eq_1)<|ξ (uu f31b21.eq_1)<|ξ (vv f31r3.eq_1)<|ξ (vv f31r4.eq_1)<|ξ (uu f31b5.eq_1)<|ξ (uu f31b6.eq_1)<|ξ (vv f31r7.eq_1)<|ξ (uu f31b8.eq_1)<|ξ (uu f31b9.eq_1)<|ξ (uu f31b10.eq_1)<|ξ (uu f31b11.eq_1)<|ξ (vv f31r12.eq_1)<|ξ (uu f31b13.eq_1)<|ξ (uu f31b14.eq_1)<|ξ (vv f31r1.eq_1)<|uu f31b2.eq_1)
theorem Ψ31:type_of% Υ31.1:=Υ31.1
def f18r1:LA:=[θ 52 6,θ 2 52,η (.mov 3 (φ 0))]
def f18b2:AQ:=ζ f18r1 .ret
def f18r3:LA:=[θ 31 7,η (.bin 32 .add (.t 31) (φ 1)),θ 7 32]
def f18r4:LA:=[θ 49 6,θ 50 8,vX 51 .mul 49 50,θ 6 51]
def f18r5:LA:=[η (.mov 2 (φ 0)),η (.mov 3 (φ 6))]
def f18b6:AQ:=ζ f18r5 .ret
def f18b7:AQ:=.cond (.t 48) f18b6 .skip
def f18r8:LA:=[θ 41 9,η (.bin 42 .neq (.t 41) (φ 0)),θ 43 42,zAA 43 (.mov 44 (.t 6)),zAA 43 (.mov 45 (.t 8)),zAA 43 (.bin 46 .mul (.t 44) (.t 45)),zAA 43 (.bin 47 .gtr (.t 46) (φ 4096)),η (.pick 48 (.t 43) (χ true) (.t 47))]
def f18b9:AQ:=ζ f18r8 f18b7
def f18b10:AQ:=.seq f18b9 (.region f18r4)
def f18r11:LA:=[θ 34 0,θ 35 7,Ψ 36 2 34 35,ω 37 2 36,Θ 38 42 37,θ 33 38,Δ 39 33 0,Δ 40 33 1,θ 8 39,θ 9 40]
def f18b12:AQ:=ζ f18r11 f18b10
def f18b13:AQ:=.block 3 f18b12
def f18b14:AQ:=.seq f18b13 (.region f18r3)
def f18b15:AQ:=.cond (.t 30) .skip (.exit 2)
def f18r16:LA:=[θ 27 7,θ 28 0,Ω 29 28,vX 30 .lss 27 29]
def f18b17:AQ:=ζ f18r16 f18b15
def f18b18:AQ:=.seq f18b17 f18b14
def f18l19:AQ:=.loop [0,6,7] [] f18b18
def f18b20:AQ:=.block 2 f18l19
def f18r21:LA:=[η (.mov 7 (φ 0))]
def f18b22:AQ:=ζ f18r21 f18b20
def f18b23:AQ:=.seq f18b22 f18b2
def f18r24:LA:=[η (.mov 6 (φ 1))]
def f18b25:AQ:=ζ f18r24 f18b23
def f18r26:LA:=[θ 17 4,η (.bin 18 .add (.t 17) (φ 1)),θ 4 18]
def f18r27:LA:=[θ 26 5,η (.mov 2 (φ 0)),θ 3 26]
def f18b28:AQ:=ζ f18r27 .ret
def f18b29:AQ:=.cond (.t 25) f18b28 .skip
def f18r30:LA:=[θ 24 5,η (.bin 25 .neq (.t 24) (φ 0))]
def f18b31:AQ:=ζ f18r30 f18b29
def f18r32:LA:=[θ 19 0,θ 20 4,Ψ 21 2 19 20,ω 22 2 21,Θ 23 41 22,θ 5 23]
def f18b33:AQ:=ζ f18r32 f18b31
def f18b34:AQ:=.block 1 f18b33
def f18b35:AQ:=.seq f18b34 (.region f18r26)
def f18b36:AQ:=.cond (.t 16) .skip (.exit 0)
def f18r37:LA:=[θ 13 4,θ 14 0,Ω 15 14,vX 16 .lss 13 15]
def f18b38:AQ:=ζ f18r37 f18b36
def f18b39:AQ:=.seq f18b38 f18b35
def f18l40:AQ:=.loop [0,4] [] f18b39
def f18b41:AQ:=.block 0 f18l40
def f18r42:LA:=[η (.mov 4 (φ 0))]
def f18b43:AQ:=ζ f18r42 f18b41
def f18b44:AQ:=.seq f18b43 f18b25
def f18r45:LA:=[η (.mov 2 (φ 0)),η (.mov 3 (φ 6))]
def f18b46:AQ:=ζ f18r45 .ret
def f18b47:AQ:=.cond (.t 12) f18b46 .skip
def f18r48:LA:=[θ 10 0,Ω 11 10,η (.bin 12 .gtr (.t 11) (φ 8))]
def f18b49:AQ:=ζ f18r48 f18b47
def f18b50:AQ:=.seq f18b49 f18b44
def f18r51:LA:=[η (.mov 2 (φ 0)),η (.mov 3 (φ 0))]
def f18b52:AQ:=ζ f18r51 f18b50
def f18:AQ:=f18b52
theorem hf18:zH Tryz.prog 18=some ⟨53,f18.erase,[(RX.t 2),(RX.t 3)]⟩:=by kernel_rfl
theorem okf18:f18.ok=true:=by kernel_rfl
def Υ18:=PLift.up (ξ (uu f18.eq_1)<|ξ (vv f18r45.eq_1)<|ξ (uu f18b46.eq_1)<|ξ (uu f18b47.eq_1)<|ξ (vv f18r48.eq_1)<|ξ (uu f18b49.eq_1)<|ξ (uu f18b50.eq_1)<|ξ (vv f18r51.eq_1)<|ξ (uu f18b52.eq_1)<|ξ (uu f18b41.eq_1)<|ξ (vv f18r42.eq_1)<|ξ (uu f18b43.eq_1)<|ξ (uu f18b44.eq_1)<|ξ (vv f18r26.eq_1)<|ξ (vv f18r32.eq_1)<|ξ (uu f18b33.eq_1)<|ξ (uu f18b34.eq_1)<|ξ (uu f18b35.eq_1)<|ξ (uu f18b36.eq_1)<|ξ (vv f18r37.eq_1)<|ξ (uu f18b38.eq_1)<|ξ (uu f18b39.eq_1)<|ξ (uu f18b29.eq_1)<|ξ (vv f18r30.eq_1)<|ξ (uu f18b31.eq_1)<|ξ (vv f18r27.eq_1)<|ξ (uu f18b28.eq_1)<|ξ (uu f18b20.eq_1)<|ξ (vv f18r21.eq_1)<|ξ (uu f18b22.eq_1)<|ξ (uu f18b23.eq_1)<|ξ (vv f18r24.eq_1)<|ξ (uu f18b25.eq_1)<|ξ (vv f18r3.eq_1)<|ξ (vv f18r11.eq_1)<|ξ (uu f18b12.eq_1)<|ξ (uu f18b13.eq_1)<|ξ (uu f18b14.eq_1)<|ξ (uu f18b15.eq_1)<|ξ (vv f18r16.eq_1)<|ξ (uu f18b17.eq_1)<|ξ (uu f18b18.eq_1)<|ξ (vv f18r4.eq_1)<|ξ (vv f18r5.eq_1)<|ξ (uu f18b6.eq_1)<|ξ (uu f18b7.eq_1)<|ξ (vv f18r8.eq_1)<|ξ (uu f18b9.eq_1)<|ξ (uu f18b10.eq_1)<|ξ (vv f18r1.eq_1)<|uu f18b2.eq_1)
theorem Ψ18:type_of% Υ18.1:=Υ18.1
def f41r1:LA:=[η (.mov 2 (φ 0))]
def f41b2:AQ:=ζ f41r1 .ret
def f41r3:LA:=[θ 21 3,η (.bin 22 .add (.t 21) (φ 1)),θ 3 22]
def f41r4:LA:=[θ 55 6,η (.bin 56 .add (.t 55) (φ 1)),θ 6 56]
def f41r5:LA:=[θ 66 7,θ 2 66]
def f41b6:AQ:=ζ f41r5 .ret
def f41b7:AQ:=.cond (.t 65) f41b6 .skip
def f41r8:LA:=[θ 64 7,η (.bin 65 .neq (.t 64) (φ 0))]
def f41b9:AQ:=ζ f41r8 f41b7
def f41r10:LA:=[Γ 57 1 4,ψ 58 1 57,θ 59 6,Ψ 60 1 58 59,Γ 61 0 60,ψ 62 1 61,Θ 63 81 62,θ 7 63]
def f41b11:AQ:=ζ f41r10 f41b9
def f41b12:AQ:=.block 5 f41b11
def f41b13:AQ:=.seq f41b12 (.region f41r4)
def f41b14:AQ:=.cond (.t 54) .skip (.exit 4)
def f41r15:LA:=[θ 50 6,Γ 51 1 4,ψ 52 1 51,Ω 53 52,vX 54 .lss 50 53]
def f41b16:AQ:=ζ f41r15 f41b14
def f41b17:AQ:=.seq f41b16 f41b13
def f41l18:AQ:=.loop [1,3,4,6] [1,4] f41b17
def f41b19:AQ:=.block 4 f41l18
def f41r20:LA:=[η (.mov 6 (φ 0))]
def f41b21:AQ:=ζ f41r20 f41b19
def f41r22:LA:=[η (.mov 2 (φ 6))]
def f41b23:AQ:=ζ f41r22 .ret
def f41b24:AQ:=.cond (.t 49) f41b23 .skip
def f41r25:LA:=[Γ 46 1 4,ψ 47 1 46,Ω 48 47,η (.bin 49 .gtr (.t 48) (φ 8))]
def f41b26:AQ:=ζ f41r25 f41b24
def f41b27:AQ:=.seq f41b26 f41b21
def f41r28:LA:=[θ 35 5,η (.bin 36 .add (.t 35) (φ 1)),θ 5 36]
def f41r29:LA:=[η (.mov 2 (φ 5))]
def f41b30:AQ:=ζ f41r29 .ret
def f41b31:AQ:=.cond (.t 45) f41b30 .skip
def f41r32:LA:=[Γ 37 1 1,ψ 38 1 37,θ 39 5,Ψ 40 2 38 39,Γ 41 0 40,ψ 42 1 41,Γ 43 0 4,ψ 44 1 43,vX 45 .eql 42 44]
def f41b33:AQ:=.seq (.draw f41r32 [[],[0],[],[1,2],[3],[4],[],[6],[5,7]]) f41b31
def f41b34:AQ:=.block 3 f41b33
def f41b35:AQ:=.seq f41b34 (.region f41r28)
def f41b36:AQ:=.cond (.t 34) .skip (.exit 2)
def f41r37:LA:=[θ 32 5,θ 33 3,vX 34 .lss 32 33]
def f41b38:AQ:=ζ f41r37 f41b36
def f41b39:AQ:=.seq f41b38 f41b35
def f41l40:AQ:=.loop [1,3,4,5] [1,4] f41b39
def f41b41:AQ:=.block 2 f41l40
def f41r42:LA:=[η (.mov 5 (φ 0))]
def f41b43:AQ:=ζ f41r42 f41b41
def f41b44:AQ:=.seq f41b43 f41b27
def f41r45:LA:=[η (.mov 2 (φ 2))]
def f41b46:AQ:=ζ f41r45 .ret
def f41b47:AQ:=.cond (.t 31) f41b46 .skip
def f41r48:LA:=[Γ 28 0 4,ψ 29 1 28,Θ 30 80 29,η (.un 31 .not (.t 30))]
def f41b49:AQ:=ζ f41r48 f41b47
def f41b50:AQ:=.seq f41b49 f41b44
def f41r51:LA:=[Γ 23 1 1,ψ 24 1 23,θ 25 3,Ψ 26 2 24 25,ω 27 2 26,η (.alloc 4 107 [(.str []),(.list 0 (some true) [])]),Φ 2 4 27]
def f41b52:AQ:=ζ f41r51 (.frz 4 f41b50)
def f41b53:AQ:=.block 1 f41b52
def f41b54:AQ:=.seq f41b53 (.region f41r3)
def f41b55:AQ:=.cond (.t 20) .skip (.exit 0)
def f41r56:LA:=[θ 16 3,Γ 17 1 1,ψ 18 1 17,Ω 19 18,vX 20 .lss 16 19]
def f41b57:AQ:=ζ f41r56 f41b55
def f41b58:AQ:=.seq f41b57 f41b54
def f41l59:AQ:=.loop [1,3] [1] f41b58
def f41b60:AQ:=.block 0 f41l59
def f41r61:LA:=[η (.mov 3 (φ 0))]
def f41b62:AQ:=ζ f41r61 f41b60
def f41b63:AQ:=.seq f41b62 f41b2
def f41r64:LA:=[η (.mov 2 (φ 6))]
def f41b65:AQ:=ζ f41r64 .ret
def f41b66:AQ:=.cond (.t 15) f41b65 .skip
def f41r67:LA:=[Γ 12 1 1,ψ 13 1 12,Ω 14 13,η (.bin 15 .gtr (.t 14) (φ 12))]
def f41b68:AQ:=ζ f41r67 f41b66
def f41b69:AQ:=.seq f41b68 f41b63
def f41r70:LA:=[η (.mov 2 (φ 2))]
def f41b71:AQ:=ζ f41r70 .ret
def f41b72:AQ:=.cond (.t 11) f41b71 .skip
def f41r73:LA:=[Γ 8 0 1,ψ 9 1 8,Θ 10 80 9,η (.un 11 .not (.t 10))]
def f41b74:AQ:=ζ f41r73 f41b72
def f41b75:AQ:=.seq f41b74 f41b69
def f41r76:LA:=[xB 1 58 0,η (.mov 2 (φ 0))]
def f41b77:AQ:=ζ f41r76 (.frz 1 f41b75)
def f41:AQ:=f41b77
theorem hf41:zH Tryz.prog 41=some ⟨67,f41.erase,[(RX.t 2)]⟩:=by kernel_rfl
theorem okf41:f41.ok=true:=by kernel_rfl
def Υ41:=PLift.up (ξ (uu f41.eq_1)<|ξ (vv f41r73.eq_1)<|ξ (uu f41b74.eq_1)<|ξ (uu f41b75.eq_1)<|ξ (vv f41r76.eq_1)<|ξ (uu f41b77.eq_1)<|ξ (vv f41r70.eq_1)<|ξ (uu f41b71.eq_1)<|ξ (uu f41b72.eq_1)<|ξ (vv f41r64.eq_1)<|ξ (uu f41b65.eq_1)<|ξ (uu f41b66.eq_1)<|ξ (vv f41r67.eq_1)<|ξ (uu f41b68.eq_1)<|ξ (uu f41b69.eq_1)<|ξ (uu f41b60.eq_1)<|ξ (vv f41r61.eq_1)<|ξ (uu f41b62.eq_1)<|ξ (uu f41b63.eq_1)<|ξ (vv f41r3.eq_1)<|ξ (vv f41r48.eq_1)<|ξ (uu f41b49.eq_1)<|ξ (uu f41b50.eq_1)<|ξ (vv f41r51.eq_1)<|ξ (uu f41b52.eq_1)<|ξ (uu f41b53.eq_1)<|ξ (uu f41b54.eq_1)<|ξ (uu f41b55.eq_1)<|ξ (vv f41r56.eq_1)<|ξ (uu f41b57.eq_1)<|ξ (uu f41b58.eq_1)<|ξ (vv f41r45.eq_1)<|ξ (uu f41b46.eq_1)<|ξ (uu f41b47.eq_1)<|ξ (uu f41b41.eq_1)<|ξ (vv f41r42.eq_1)<|ξ (uu f41b43.eq_1)<|ξ (uu f41b44.eq_1)<|ξ (vv f41r28.eq_1)<|ξ (vv f41r29.eq_1)<|ξ (uu f41b30.eq_1)<|ξ (uu f41b31.eq_1)<|ξ (vv f41r32.eq_1)<|ξ (uu f41b33.eq_1)<|ξ (uu f41b34.eq_1)<|ξ (uu f41b35.eq_1)<|ξ (uu f41b36.eq_1)<|ξ (vv f41r37.eq_1)<|ξ (uu f41b38.eq_1)<|ξ (uu f41b39.eq_1)<|ξ (vv f41r22.eq_1)<|ξ (uu f41b23.eq_1)<|ξ (uu f41b24.eq_1)<|ξ (vv f41r25.eq_1)<|ξ (uu f41b26.eq_1)<|ξ (uu f41b27.eq_1)<|ξ (uu f41b19.eq_1)<|ξ (vv f41r20.eq_1)<|ξ (uu f41b21.eq_1)<|ξ (vv f41r4.eq_1)<|ξ (vv f41r10.eq_1)<|ξ (uu f41b11.eq_1)<|ξ (uu f41b12.eq_1)<|ξ (uu f41b13.eq_1)<|ξ (uu f41b14.eq_1)<|ξ (vv f41r15.eq_1)<|ξ (uu f41b16.eq_1)<|ξ (uu f41b17.eq_1)<|ξ (uu f41b7.eq_1)<|ξ (vv f41r8.eq_1)<|ξ (uu f41b9.eq_1)<|ξ (vv f41r5.eq_1)<|ξ (uu f41b6.eq_1)<|ξ (vv f41r1.eq_1)<|uu f41b2.eq_1)
theorem Ψ41:type_of% Υ41.1:=Υ41.1
def f42r1:LA:=[θ 29 5,θ 2 29,η (.mov 3 (φ 0))]
def f42b2:AQ:=ζ f42r1 .ret
def f42r3:LA:=[θ 17 6,η (.bin 18 .add (.t 17) (φ 1)),θ 6 18]
def f42r4:LA:=[η (.mov 2 (φ 0)),η (.mov 3 (φ 6))]
def f42b5:AQ:=ζ f42r4 .ret
def f42b6:AQ:=.cond (.t 28) f42b5 .skip
def f42r7:LA:=[θ 27 5,η (.bin 28 .gtr (.t 27) (φ 4096))]
def f42b8:AQ:=ζ f42r7 f42b6
def f42r9:LA:=[θ 19 5,Γ 20 1 1,ψ 21 1 20,θ 22 6,Ψ 23 2 21 22,ω 24 2 23,Θ 25 82 24,vX 26 .mul 19 25,θ 5 26]
def f42b10:AQ:=ζ f42r9 f42b8
def f42b11:AQ:=.block 1 f42b10
def f42b12:AQ:=.seq f42b11 (.region f42r3)
def f42b13:AQ:=.cond (.t 16) .skip (.exit 0)
def f42r14:LA:=[θ 12 6,Γ 13 1 1,ψ 14 1 13,Ω 15 14,vX 16 .lss 12 15]
def f42b15:AQ:=ζ f42r14 f42b13
def f42b16:AQ:=.seq f42b15 f42b12
def f42l17:AQ:=.loop [1,5,6] [1] f42b16
def f42b18:AQ:=.block 0 f42l17
def f42r19:LA:=[η (.mov 6 (φ 0))]
def f42b20:AQ:=ζ f42r19 f42b18
def f42b21:AQ:=.seq f42b20 f42b2
def f42r22:LA:=[η (.mov 5 (φ 1))]
def f42b23:AQ:=ζ f42r22 f42b21
def f42r24:LA:=[θ 11 4,η (.mov 2 (φ 0)),θ 3 11]
def f42b25:AQ:=ζ f42r24 .ret
def f42b26:AQ:=.cond (.t 10) f42b25 .skip
def f42r27:LA:=[θ 9 4,η (.bin 10 .neq (.t 9) (φ 0))]
def f42b28:AQ:=ζ f42r27 f42b26
def f42b29:AQ:=.seq f42b28 f42b23
def f42r30:LA:=[ω 7 2 1,Θ 8 41 7,θ 4 8]
def f42b31:AQ:=ζ f42r30 f42b29
def f42r32:LA:=[xB 1 58 0,η (.mov 2 (φ 0)),η (.mov 3 (φ 0))]
def f42b33:AQ:=ζ f42r32 (.frz 1 f42b31)
def f42:AQ:=f42b33
theorem hf42:zH Tryz.prog 42=some ⟨30,f42.erase,[(RX.t 2),(RX.t 3)]⟩:=by kernel_rfl
theorem okf42:f42.ok=true:=by kernel_rfl
def Υ42:=PLift.up (ξ (uu f42.eq_1)<|ξ (vv f42r30.eq_1)<|ξ (uu f42b31.eq_1)<|ξ (vv f42r32.eq_1)<|ξ (uu f42b33.eq_1)<|ξ (uu f42b18.eq_1)<|ξ (vv f42r19.eq_1)<|ξ (uu f42b20.eq_1)<|ξ (uu f42b21.eq_1)<|ξ (vv f42r22.eq_1)<|ξ (uu f42b23.eq_1)<|ξ (uu f42b26.eq_1)<|ξ (vv f42r27.eq_1)<|ξ (uu f42b28.eq_1)<|ξ (uu f42b29.eq_1)<|ξ (vv f42r3.eq_1)<|ξ (vv f42r9.eq_1)<|ξ (uu f42b10.eq_1)<|ξ (uu f42b11.eq_1)<|ξ (uu f42b12.eq_1)<|ξ (uu f42b13.eq_1)<|ξ (vv f42r14.eq_1)<|ξ (uu f42b15.eq_1)<|ξ (uu f42b16.eq_1)<|ξ (vv f42r4.eq_1)<|ξ (uu f42b5.eq_1)<|ξ (uu f42b6.eq_1)<|ξ (vv f42r7.eq_1)<|ξ (uu f42b8.eq_1)<|ξ (vv f42r1.eq_1)<|ξ (uu f42b2.eq_1)<|ξ (vv f42r24.eq_1)<|uu f42b25.eq_1)
theorem Ψ42:type_of% Υ42.1:=Υ42.1
def f80r1:LA:=[η (.mov 2 (χ true))]
def f80b2:AQ:=ζ f80r1 .ret
def f80r3:LA:=[θ 22 3,η (.bin 23 .add (.t 22) (φ 1)),θ 3 23]
def f80r4:LA:=[η (.mov 2 (χ false))]
def f80b5:AQ:=ζ f80r4 .ret
def f80b6:AQ:=.cond (.t 41) f80b5 .skip
def f80r7:LA:=[θ 24 0,θ 25 3,η (.sidx 26 (.t 24) (.t 25)),Θ 27 113 26,η (.un 28 .not (.t 27)),θ 29 28,kI 29 (.mov 30 (.t 0)),kI 29 (.mov 31 (.t 3)),kI 29 (.sidx 32 (.t 30) (.t 31)),kI 29 (.call (some 33) 114 [(.t 32)]),kI 29 (.un 34 .not (.t 33)),η (.pick 35 (.t 29) (.t 34) (χ false)),θ 36 35,kI 36 (.mov 37 (.t 0)),kI 36 (.mov 38 (.t 3)),kI 36 (.sidx 39 (.t 37) (.t 38)),kI 36 (.bin 40 .neq (.t 39) (.v (.k (.c (.int .u8 95))))),η (.pick 41 (.t 36) (.t 40) (χ false))]
def f80b8:AQ:=ζ f80r7 f80b6
def f80b9:AQ:=.block 1 f80b8
def f80b10:AQ:=.seq f80b9 (.region f80r3)
def f80b11:AQ:=.cond (.t 21) .skip (.exit 0)
def f80r12:LA:=[θ 18 3,θ 19 0,η (.lenS 20 (.t 19)),vX 21 .lss 18 20]
def f80b13:AQ:=ζ f80r12 f80b11
def f80b14:AQ:=.seq f80b13 f80b10
def f80l15:AQ:=.loop [0,3] [] f80b14
def f80b16:AQ:=.block 0 f80l15
def f80r17:LA:=[η (.mov 3 (φ 1))]
def f80b18:AQ:=ζ f80r17 f80b16
def f80b19:AQ:=.seq f80b18 f80b2
def f80r20:LA:=[η (.mov 2 (χ false))]
def f80b21:AQ:=ζ f80r20 .ret
def f80b22:AQ:=.cond (.t 17) f80b21 .skip
def f80r23:LA:=[θ 4 0,η (.lenS 5 (.t 4)),η (.bin 6 .lss (.t 5) (φ 1)),θ 7 6,zAA 7 (.mov 8 (.t 0)),zAA 7 (.lenS 9 (.t 8)),zAA 7 (.bin 10 .gtr (.t 9) (φ 20)),η (.pick 11 (.t 7) (χ true) (.t 10)),θ 12 11,zAA 12 (.mov 13 (.t 0)),zAA 12 (.sidx 14 (.t 13) (φ 0)),zAA 12 (.call (some 15) 113 [(.t 14)]),zAA 12 (.un 16 .not (.t 15)),η (.pick 17 (.t 12) (χ true) (.t 16))]
def f80b24:AQ:=ζ f80r23 f80b22
def f80b25:AQ:=.seq f80b24 f80b19
def f80r26:LA:=[η (.mov 2 (χ false))]
def f80b27:AQ:=ζ f80r26 f80b25
def f80:AQ:=f80b27
theorem hf80:zH Tryz.prog 80=some ⟨42,f80.erase,[(RX.t 2)]⟩:=by kernel_rfl
theorem okf80:f80.ok=true:=by kernel_rfl
def Υ80:=PLift.up (ξ (uu f80.eq_1)<|ξ (vv f80r20.eq_1)<|ξ (uu f80b21.eq_1)<|ξ (uu f80b22.eq_1)<|ξ (vv f80r23.eq_1)<|ξ (uu f80b24.eq_1)<|ξ (uu f80b25.eq_1)<|ξ (vv f80r26.eq_1)<|ξ (uu f80b27.eq_1)<|ξ (uu f80b16.eq_1)<|ξ (vv f80r17.eq_1)<|ξ (uu f80b18.eq_1)<|ξ (uu f80b19.eq_1)<|ξ (vv f80r3.eq_1)<|ξ (vv f80r7.eq_1)<|ξ (uu f80b8.eq_1)<|ξ (uu f80b9.eq_1)<|ξ (uu f80b10.eq_1)<|ξ (uu f80b11.eq_1)<|ξ (vv f80r12.eq_1)<|ξ (uu f80b13.eq_1)<|ξ (uu f80b14.eq_1)<|ξ (uu f80b6.eq_1)<|ξ (vv f80r4.eq_1)<|ξ (uu f80b5.eq_1)<|ξ (vv f80r1.eq_1)<|uu f80b2.eq_1)
theorem Ψ80:type_of% Υ80.1:=Υ80.1
def f81r1:LA:=[η (.mov 2 (φ 0))]
def f81b2:AQ:=ζ f81r1 .ret
def f81r3:LA:=[θ 28 4,η (.bin 29 .add (.t 28) (φ 1)),θ 4 29]
def f81r4:LA:=[θ 33 5,η (.bin 34 .add (.t 33) (φ 1)),θ 5 34]
def f81r5:LA:=[η (.mov 2 (φ 5))]
def f81b6:AQ:=ζ f81r5 .ret
def f81b7:AQ:=.cond (.t 43) f81b6 .skip
def f81r8:LA:=[θ 35 0,θ 36 4,Ψ 37 1 35 36,ψ 38 1 37,θ 39 0,θ 40 5,Ψ 41 1 39 40,ψ 42 1 41,vX 43 .eql 38 42]
def f81b9:AQ:=.seq (.draw f81r8 [[],[],[0,1],[2],[],[],[4,5],[6],[3,7]]) f81b7
def f81b10:AQ:=.block 5 f81b9
def f81b11:AQ:=.seq f81b10 (.region f81r4)
def f81b12:AQ:=.cond (.t 32) .skip (.exit 4)
def f81r13:LA:=[θ 30 5,θ 31 4,vX 32 .lss 30 31]
def f81b14:AQ:=ζ f81r13 f81b12
def f81b15:AQ:=.seq f81b14 f81b11
def f81l16:AQ:=.loop [0,4,5] [] f81b15
def f81b17:AQ:=.block 4 f81l16
def f81r18:LA:=[η (.mov 5 (φ 0))]
def f81b19:AQ:=ζ f81r18 f81b17
def f81b20:AQ:=.block 3 f81b19
def f81b21:AQ:=.seq f81b20 (.region f81r3)
def f81b22:AQ:=.cond (.t 27) .skip (.exit 2)
def f81r23:LA:=[θ 24 4,θ 25 0,Ω 26 25,vX 27 .lss 24 26]
def f81b24:AQ:=ζ f81r23 f81b22
def f81b25:AQ:=.seq f81b24 f81b21
def f81l26:AQ:=.loop [0,4] [] f81b25
def f81b27:AQ:=.block 2 f81l26
def f81r28:LA:=[η (.mov 4 (φ 0))]
def f81b29:AQ:=ζ f81r28 f81b27
def f81b30:AQ:=.seq f81b29 f81b2
def f81r31:LA:=[θ 16 3,η (.bin 17 .add (.t 16) (φ 1)),θ 3 17]
def f81r32:LA:=[η (.mov 2 (φ 2))]
def f81b33:AQ:=ζ f81r32 .ret
def f81b34:AQ:=.cond (.t 23) f81b33 .skip
def f81r35:LA:=[θ 18 0,θ 19 3,Ψ 20 1 18 19,ψ 21 1 20,Θ 22 115 21,η (.un 23 .not (.t 22))]
def f81b36:AQ:=ζ f81r35 f81b34
def f81b37:AQ:=.block 1 f81b36
def f81b38:AQ:=.seq f81b37 (.region f81r31)
def f81b39:AQ:=.cond (.t 15) .skip (.exit 0)
def f81r40:LA:=[θ 12 3,θ 13 0,Ω 14 13,vX 15 .lss 12 14]
def f81b41:AQ:=ζ f81r40 f81b39
def f81b42:AQ:=.seq f81b41 f81b38
def f81l43:AQ:=.loop [0,3] [] f81b42
def f81b44:AQ:=.block 0 f81l43
def f81r45:LA:=[η (.mov 3 (φ 0))]
def f81b46:AQ:=ζ f81r45 f81b44
def f81b47:AQ:=.seq f81b46 f81b30
def f81r48:LA:=[η (.mov 2 (φ 4))]
def f81b49:AQ:=ζ f81r48 .ret
def f81b50:AQ:=.cond (.t 11) f81b49 .skip
def f81r51:LA:=[θ 9 0,Ω 10 9,η (.bin 11 .eql (.t 10) (φ 0))]
def f81b52:AQ:=ζ f81r51 f81b50
def f81b53:AQ:=.seq f81b52 f81b47
def f81r54:LA:=[η (.mov 2 (φ 6))]
def f81b55:AQ:=ζ f81r54 .ret
def f81b56:AQ:=.cond (.t 8) f81b55 .skip
def f81r57:LA:=[θ 6 0,Ω 7 6,η (.bin 8 .gtr (.t 7) (φ 4))]
def f81b58:AQ:=ζ f81r57 f81b56
def f81b59:AQ:=.seq f81b58 f81b53
def f81r60:LA:=[η (.mov 2 (φ 0))]
def f81b61:AQ:=ζ f81r60 f81b59
def f81:AQ:=f81b61
theorem hf81:zH Tryz.prog 81=some ⟨44,f81.erase,[(RX.t 2)]⟩:=by kernel_rfl
theorem okf81:f81.ok=true:=by kernel_rfl
def Υ81:=PLift.up (ξ (uu f81.eq_1)<|ξ (vv f81r54.eq_1)<|ξ (uu f81b55.eq_1)<|ξ (uu f81b56.eq_1)<|ξ (vv f81r57.eq_1)<|ξ (uu f81b58.eq_1)<|ξ (uu f81b59.eq_1)<|ξ (vv f81r60.eq_1)<|ξ (uu f81b61.eq_1)<|ξ (vv f81r48.eq_1)<|ξ (uu f81b49.eq_1)<|ξ (uu f81b50.eq_1)<|ξ (vv f81r51.eq_1)<|ξ (uu f81b52.eq_1)<|ξ (uu f81b53.eq_1)<|ξ (uu f81b44.eq_1)<|ξ (vv f81r45.eq_1)<|ξ (uu f81b46.eq_1)<|ξ (uu f81b47.eq_1)<|ξ (vv f81r31.eq_1)<|ξ (vv f81r35.eq_1)<|ξ (uu f81b36.eq_1)<|ξ (uu f81b37.eq_1)<|ξ (uu f81b38.eq_1)<|ξ (uu f81b39.eq_1)<|ξ (vv f81r40.eq_1)<|ξ (uu f81b41.eq_1)<|ξ (uu f81b42.eq_1)<|ξ (uu f81b34.eq_1)<|ξ (vv f81r32.eq_1)<|ξ (uu f81b33.eq_1)<|ξ (uu f81b27.eq_1)<|ξ (vv f81r28.eq_1)<|ξ (uu f81b29.eq_1)<|ξ (uu f81b30.eq_1)<|ξ (vv f81r3.eq_1)<|ξ (uu f81b17.eq_1)<|ξ (vv f81r18.eq_1)<|ξ (uu f81b19.eq_1)<|ξ (uu f81b20.eq_1)<|ξ (uu f81b21.eq_1)<|ξ (uu f81b22.eq_1)<|ξ (vv f81r23.eq_1)<|ξ (uu f81b24.eq_1)<|ξ (uu f81b25.eq_1)<|ξ (vv f81r4.eq_1)<|ξ (vv f81r5.eq_1)<|ξ (uu f81b6.eq_1)<|ξ (uu f81b7.eq_1)<|ξ (vv f81r8.eq_1)<|ξ (uu f81b9.eq_1)<|ξ (uu f81b10.eq_1)<|ξ (uu f81b11.eq_1)<|ξ (uu f81b12.eq_1)<|ξ (vv f81r13.eq_1)<|ξ (uu f81b14.eq_1)<|ξ (uu f81b15.eq_1)<|ξ (vv f81r1.eq_1)<|uu f81b2.eq_1)
theorem Ψ81:type_of% Υ81.1:=Υ81.1
def f82r1:LA:=[θ 21 3,θ 2 21]
def f82b2:AQ:=ζ f82r1 .ret
def f82r3:LA:=[θ 10 4,η (.bin 11 .add (.t 10) (φ 1)),θ 4 11]
def f82r4:LA:=[θ 12 3,Γ 13 1 1,ψ 14 1 13,θ 15 4,Ψ 16 1 14 15,Γ 17 0 16,ψ 18 1 17,Ω 19 18,vX 20 .mul 12 19,θ 3 20]
def f82b5:AQ:=.block 1 (.region f82r4)
def f82b6:AQ:=.seq f82b5 (.region f82r3)
def f82b7:AQ:=.cond (.t 9) .skip (.exit 0)
def f82r8:LA:=[θ 5 4,Γ 6 1 1,ψ 7 1 6,Ω 8 7,vX 9 .lss 5 8]
def f82b9:AQ:=ζ f82r8 f82b7
def f82b10:AQ:=.seq f82b9 f82b6
def f82l11:AQ:=.loop [1,3,4] [1] f82b10
def f82b12:AQ:=.block 0 f82l11
def f82r13:LA:=[η (.mov 4 (φ 0))]
def f82b14:AQ:=ζ f82r13 f82b12
def f82b15:AQ:=.seq f82b14 f82b2
def f82r16:LA:=[η (.mov 3 (φ 1))]
def f82b17:AQ:=ζ f82r16 f82b15
def f82r18:LA:=[xB 1 107 0,η (.mov 2 (φ 0))]
def f82b19:AQ:=ζ f82r18 (.frz 1 f82b17)
def f82:AQ:=f82b19
theorem hf82:zH Tryz.prog 82=some ⟨22,f82.erase,[(RX.t 2)]⟩:=by kernel_rfl
theorem okf82:f82.ok=true:=by kernel_rfl
def Υ82:=PLift.up (ξ (uu f82.eq_1)<|ξ (uu f82b12.eq_1)<|ξ (vv f82r13.eq_1)<|ξ (uu f82b14.eq_1)<|ξ (uu f82b15.eq_1)<|ξ (vv f82r16.eq_1)<|ξ (uu f82b17.eq_1)<|ξ (vv f82r18.eq_1)<|ξ (uu f82b19.eq_1)<|ξ (vv f82r3.eq_1)<|ξ (vv f82r4.eq_1)<|ξ (uu f82b5.eq_1)<|ξ (uu f82b6.eq_1)<|ξ (uu f82b7.eq_1)<|ξ (vv f82r8.eq_1)<|ξ (uu f82b9.eq_1)<|ξ (uu f82b10.eq_1)<|ξ (vv f82r1.eq_1)<|uu f82b2.eq_1)
theorem Ψ82:type_of% Υ82.1:=Υ82.1
def f113r1:LA:=[θ 3 0,η (.bin 4 .geq (.t 3) (.v (.k (.c (.int .u8 97))))),θ 5 4,kI 5 (.mov 6 (.t 0)),kI 5 (.bin 7 .leq (.t 6) (.v (.k (.c (.int .u8 122))))),η (.pick 8 (.t 5) (.t 7) (χ false)),θ 9 8,zAA 9 (.mov 10 (.t 0)),zAA 9 (.bin 11 .geq (.t 10) (.v (.k (.c (.int .u8 65))))),zAA 9 (.mov 12 (.t 11)),kI 12 (.mov 13 (.t 0)),kI 12 (.bin 14 .leq (.t 13) (.v (.k (.c (.int .u8 90))))),zAA 9 (.pick 15 (.t 12) (.t 14) (χ false)),η (.pick 16 (.t 9) (χ true) (.t 15)),θ 2 16]
def f113b2:AQ:=ζ f113r1 .ret
def f113r3:LA:=[η (.mov 2 (χ false))]
def f113b4:AQ:=ζ f113r3 f113b2
def f113:AQ:=f113b4
theorem hf113:zH Tryz.prog 113=some ⟨17,f113.erase,[(RX.t 2)]⟩:=by kernel_rfl
theorem okf113:f113.ok=true:=by kernel_rfl
def Υ113:=PLift.up (ξ (uu f113.eq_1)<|ξ (vv f113r1.eq_1)<|ξ (uu f113b2.eq_1)<|ξ (vv f113r3.eq_1)<|uu f113b4.eq_1)
theorem Ψ113:type_of% Υ113.1:=Υ113.1
def f114r1:LA:=[θ 3 0,η (.bin 4 .geq (.t 3) (.v (.k (.c (.int .u8 48))))),θ 5 4,kI 5 (.mov 6 (.t 0)),kI 5 (.bin 7 .leq (.t 6) (.v (.k (.c (.int .u8 57))))),η (.pick 8 (.t 5) (.t 7) (χ false)),θ 2 8]
def f114b2:AQ:=ζ f114r1 .ret
def f114r3:LA:=[η (.mov 2 (χ false))]
def f114b4:AQ:=ζ f114r3 f114b2
def f114:AQ:=f114b4
theorem hf114:zH Tryz.prog 114=some ⟨9,f114.erase,[(RX.t 2)]⟩:=by kernel_rfl
theorem okf114:f114.ok=true:=by kernel_rfl
def Υ114:=PLift.up (ξ (uu f114.eq_1)<|ξ (vv f114r1.eq_1)<|ξ (uu f114b2.eq_1)<|ξ (vv f114r3.eq_1)<|uu f114b4.eq_1)
theorem Ψ114:type_of% Υ114.1:=Υ114.1
def f115r1:LA:=[θ 20 0,η (.lenS 21 (.t 20)),η (.bin 22 .geq (.t 21) (φ 1)),θ 23 22,kI 23 (.mov 24 (.t 0)),kI 23 (.lenS 25 (.t 24)),kI 23 (.bin 26 .leq (.t 25) (φ 20)),η (.pick 27 (.t 23) (.t 26) (χ false)),θ 2 27]
def f115b2:AQ:=ζ f115r1 .ret
def f115r3:LA:=[θ 8 3,η (.bin 9 .add (.t 8) (φ 1)),θ 3 9]
def f115r4:LA:=[η (.mov 2 (χ false))]
def f115b5:AQ:=ζ f115r4 .ret
def f115b6:AQ:=.cond (.t 19) f115b5 .skip
def f115r7:LA:=[θ 10 0,θ 11 3,η (.sidx 12 (.t 10) (.t 11)),η (.bin 13 .lss (.t 12) (.v (.k (.c (.int .u8 33))))),θ 14 13,zAA 14 (.mov 15 (.t 0)),zAA 14 (.mov 16 (.t 3)),zAA 14 (.sidx 17 (.t 15) (.t 16)),zAA 14 (.bin 18 .gtr (.t 17) (.v (.k (.c (.int .u8 126))))),η (.pick 19 (.t 14) (χ true) (.t 18))]
def f115b8:AQ:=ζ f115r7 f115b6
def f115b9:AQ:=.block 1 f115b8
def f115b10:AQ:=.seq f115b9 (.region f115r3)
def f115b11:AQ:=.cond (.t 7) .skip (.exit 0)
def f115r12:LA:=[θ 4 3,θ 5 0,η (.lenS 6 (.t 5)),vX 7 .lss 4 6]
def f115b13:AQ:=ζ f115r12 f115b11
def f115b14:AQ:=.seq f115b13 f115b10
def f115l15:AQ:=.loop [0,3] [] f115b14
def f115b16:AQ:=.block 0 f115l15
def f115r17:LA:=[η (.mov 3 (φ 0))]
def f115b18:AQ:=ζ f115r17 f115b16
def f115b19:AQ:=.seq f115b18 f115b2
def f115r20:LA:=[η (.mov 2 (χ false))]
def f115b21:AQ:=ζ f115r20 f115b19
def f115:AQ:=f115b21
theorem hf115:zH Tryz.prog 115=some ⟨28,f115.erase,[(RX.t 2)]⟩:=by kernel_rfl
theorem okf115:f115.ok=true:=by kernel_rfl
def Υ115:=PLift.up (ξ (uu f115.eq_1)<|ξ (uu f115b16.eq_1)<|ξ (vv f115r17.eq_1)<|ξ (uu f115b18.eq_1)<|ξ (uu f115b19.eq_1)<|ξ (vv f115r20.eq_1)<|ξ (uu f115b21.eq_1)<|ξ (vv f115r3.eq_1)<|ξ (vv f115r4.eq_1)<|ξ (uu f115b5.eq_1)<|ξ (uu f115b6.eq_1)<|ξ (vv f115r7.eq_1)<|ξ (uu f115b8.eq_1)<|ξ (uu f115b9.eq_1)<|ξ (uu f115b10.eq_1)<|ξ (uu f115b11.eq_1)<|ξ (vv f115r12.eq_1)<|ξ (uu f115b13.eq_1)<|ξ (uu f115b14.eq_1)<|ξ (vv f115r1.eq_1)<|uu f115b2.eq_1)
theorem Ψ115:type_of% Υ115.1:=Υ115.1
def f3r1:LA:=[θ 128 7,θ 129 128,kI 129 (.mov 130 (.t 12)),kI 129 (.mov 131 (.t 0)),kI 129 (.mov 132 (.t 10)),kI 129 (.mov 133 (.t 1)),kI 129 (.call (some 134) 11 [(.t 131),(.t 132),(.t 133)]),kI 129 (.un 135 .not (.t 134)),kI 129 (.binB 136 false (.t 130) (.t 135)),η (.pick 137 (.t 129) (.t 136) (χ false)),θ 6 137]
def f3b2:AQ:=ζ f3r1 .ret
def f3r3:LA:=[θ 57 13,η (.bin 58 .add (.t 57) (φ 1)),θ 13 58]
def f3r4:LA:=[θ 124 12,θ 125 124,zAA 125 (.mov 126 (.t 15)),η (.pick 127 (.t 125) (χ true) (.t 126)),θ 12 127]
def f3r5:LA:=[θ 83 16,η (.bin 84 .add (.t 83) (φ 1)),θ 16 84]
def f3r6:LA:=[θ 113 15,θ 114 113,kI 114 (.mov 115 (.t 2)),kI 114 (.mov 116 (.t 14)),kI 114 (.mov 117 (.t 16)),kI 114 (.iaddr 118 1 (.t 116) (.t 117)),kI 114 (.load 119 1 false (.t 118)),kI 114 (.bin 120 .shr (.t 115) (.t 119)),kI 114 (.bin 121 .and (.t 120) (.v (.k (.c (.int .u8 1))))),kI 114 (.bin 122 .eql (.t 121) (.v (.k (.c (.int .u8 1))))),η (.pick 123 (.t 114) (.t 122) (χ false)),θ 15 123]
def f3r7:LA:=[η (.mov 6 (χ false))]
def f3b8:AQ:=ζ f3r7 .ret
def f3b9:AQ:=.cond (.t 112) f3b8 .skip
def f3r10o0:AI:=.mk none (.mov 85 (.t 0))
def f3r10o1:AI:=.mk none (.bslice 86 3 1 [(.int .i64 0)] 0 [])
def f3r10o2:AI:=.mk none (.mov 87 (.t 14))
def f3r10o3:AI:=.mk none (.mov 88 (.t 16))
def f3r10o4:AI:=.mk none (.slice 89 1 (.t 87) none (some (.t 88)))
def f3r10o5:AI:=.mk none (.append 90 3 1 8 (.t 86) (.t 89))
def f3r10o6:AI:=.mk none (.mov 91 (.t 14))
def f3r10o7:AI:=.mk none (.mov 92 (.t 16))
def f3r10o8:AI:=.mk none (.bin 93 .add (.t 92) (.v (.k (.c (.int .i64 1)))))
def f3r10o9:AI:=.mk none (.slice 94 1 (.t 91) (some (.t 93)) none)
def f3r10o10:AI:=.mk none (.append 95 3 1 8 (.t 90) (.t 94))
def f3r10o11:AI:=.mk none (.mov 96 (.t 1))
def f3r10o12:AI:=.mk none (.call (some 97) 11 [(.t 85),(.t 95),(.t 96)])
def f3r10o13:AI:=.mk none (.un 98 .not (.t 97))
def f3r10o14:AI:=.mk none (.mov 99 (.t 98))
def f3r10o15:AI:=.mk (some (99,false)) (.mov 100 (.t 14))
def f3r10o16:AI:=.mk (some (99,false)) (.mov 101 (.t 16))
def f3r10o17:AI:=.mk (some (99,false)) (.iaddr 102 1 (.t 100) (.t 101))
def f3r10o18:AI:=.mk (some (99,false)) (.load 103 1 false (.t 102))
def f3r10o19:AI:=.mk (some (99,false)) (.bin 104 .lss (.t 103) (.v (.k (.c (.int .i64 0)))))
def f3r10o20:AI:=.mk none (.pick 105 (.t 99) (.v (.k (.c (.bool true)))) (.t 104))
def f3r10o21:AI:=.mk none (.mov 106 (.t 105))
def f3r10o22:AI:=.mk (some (106,false)) (.mov 107 (.t 14))
def f3r10o23:AI:=.mk (some (106,false)) (.mov 108 (.t 16))
def f3r10o24:AI:=.mk (some (106,false)) (.iaddr 109 1 (.t 107) (.t 108))
def f3r10o25:AI:=.mk (some (106,false)) (.load 110 1 false (.t 109))
def f3r10o26:AI:=.mk (some (106,false)) (.bin 111 .gtr (.t 110) (.v (.k (.c (.int .i64 7)))))
def f3r10o27:AI:=.mk none (.pick 112 (.t 106) (.v (.k (.c (.bool true)))) (.t 111))
def f3r10:LA:=[f3r10o0,f3r10o1,f3r10o2,f3r10o3,f3r10o4,f3r10o5,f3r10o6,f3r10o7,f3r10o8,f3r10o9,f3r10o10,f3r10o11,f3r10o12,f3r10o13,f3r10o14,f3r10o15,f3r10o16,f3r10o17,f3r10o18,f3r10o19,f3r10o20,f3r10o21,f3r10o22,f3r10o23,f3r10o24,f3r10o25,f3r10o26,f3r10o27]
def f3b11:AQ:=.seq (.tree f3r10 [[],[],[],[],[2,3],[1,4],[],[],[7],[6,8],[5,9,5],[],[0,10,11,10],[12],[13,12],[14],[14],[15,16,14],[17,14],[18,14],[14,19],[20,14],[21],[21],[22,23,21],[24,21],[25,21],[21,26]]) (.keep [0,1,2,7,8,10,12,13,14,15,16,112] [26,37,52,27000,27001,27002] f3b9)
def f3b12:AQ:=.seq f3b11 (.region f3r6)
def f3b13:AQ:=.block 5 f3b12
def f3b14:AQ:=.seq f3b13 (.region f3r5)
def f3b15:AQ:=.cond (.t 82) .skip (.exit 4)
def f3r16:LA:=[θ 79 16,θ 80 14,Ω 81 80,vX 82 .lss 79 81]
def f3b17:AQ:=ζ f3r16 f3b15
def f3b18:AQ:=.seq f3b17 f3b14
def f3l19:AQ:=.loop [0,1,2,7,8,10,12,13,14,15,16] [26,37,52,27000,27001,27002] f3b18
def f3b20:AQ:=.block 4 f3l19
def f3r21:LA:=[η (.mov 16 (φ 0))]
def f3b22:AQ:=ζ f3r21 f3b20
def f3b23:AQ:=.seq f3b22 (.region f3r4)
def f3r24:LA:=[η (.mov 15 (χ true))]
def f3b25:AQ:=ζ f3r24 f3b23
def f3r26:LA:=[η (.mov 6 (χ false))]
def f3b27:AQ:=ζ f3r26 .ret
def f3b28:AQ:=.cond (.t 78) f3b27 .skip
def f3r29:LA:=[θ 70 14,Ω 71 70,η (.bin 72 .eql (.t 71) (φ 0)),θ 73 72,zAA 73 (.mov 74 (.t 0)),zAA 73 (.mov 75 (.t 14)),zAA 73 (.mov 76 (.t 1)),zAA 73 (.call (some 77) 11 [(.t 74),(.t 75),(.t 76)]),η (.pick 78 (.t 73) (χ true) (.t 77))]
def f3b30:AQ:=ζ f3r29 f3b28
def f3b31:AQ:=.seq f3b30 f3b25
def f3b32:AQ:=.cond (.t 69) (.exit 3) .skip
def f3r33:LA:=[θ 64 8,θ 65 13,Ψ 66 3 64 65,Γ 67 2 66,ψ 68 1 67,η (.un 69 .not (.t 68))]
def f3b34:AQ:=ζ f3r33 f3b32
def f3b35:AQ:=.seq f3b34 f3b31
def f3r36:LA:=[θ 59 8,θ 60 13,Ψ 61 3 59 60,Γ 62 0 61,ψ 63 1 62,θ 14 63]
def f3b37:AQ:=ζ f3r36 f3b35
def f3b38:AQ:=.block 3 f3b37
def f3b39:AQ:=.seq f3b38 (.region f3r3)
def f3b40:AQ:=.cond (.t 56) .skip (.exit 2)
def f3r41:LA:=[θ 53 13,θ 54 8,Ω 55 54,vX 56 .lss 53 55]
def f3b42:AQ:=ζ f3r41 f3b40
def f3b43:AQ:=.seq f3b42 f3b39
def f3l44:AQ:=.loop [0,1,2,7,8,10,12,13] [26,37,52,27000,27001,27002] f3b43
def f3b45:AQ:=.block 2 f3l44
def f3r46:LA:=[η (.mov 13 (φ 0))]
def f3b47:AQ:=ζ f3r46 f3b45
def f3b48:AQ:=.seq f3b47 f3b2
def f3r49:LA:=[η (.mov 12 (χ false))]
def f3b50:AQ:=ζ f3r49 f3b48
def f3r51:LA:=[θ 42 11,η (.bin 43 .add (.t 42) (φ 1)),θ 11 43]
def f3r52:LA:=[θ 49 10,θ 50 11,η (.bslice 51 3 1 [(.int .i64 0)] 1 [(0,(.t 50))]),η (.append 52 3 1 8 (.t 49) (.t 51)),θ 10 52]
def f3b53:AQ:=.cond (.t 48) (.region f3r52) .skip
def f3r54:LA:=[θ 44 2,θ 45 11,vX 46 .shr 44 45,η (.bin 47 .and (.t 46) (.v (.k (.c (.int .u8 1))))),η (.bin 48 .eql (.t 47) (.v (.k (.c (.int .u8 1)))))]
def f3b55:AQ:=ζ f3r54 f3b53
def f3b56:AQ:=.block 1 f3b55
def f3b57:AQ:=.seq f3b56 (.region f3r51)
def f3b58:AQ:=.cond (.t 41) .skip (.exit 0)
def f3r59:LA:=[θ 38 11,θ 39 0,Ω 40 39,vX 41 .lss 38 40]
def f3b60:AQ:=ζ f3r59 f3b58
def f3b61:AQ:=.seq f3b60 f3b57
def f3l62:AQ:=.loop [0,1,2,7,8,10,11] [26,37,52,27000,27001,27002] f3b61
def f3b63:AQ:=.block 0 f3l62
def f3r64:LA:=[η (.mov 11 (φ 0))]
def f3b65:AQ:=ζ f3r64 f3b63
def f3b66:AQ:=.seq f3b65 f3b50
def f3r67:LA:=[η (.bslice 37 3 1 [(.int .i64 0)] 0 []),θ 10 37]
def f3b68:AQ:=ζ f3r67 f3b66
def f3r69:LA:=[θ 31 7,θ 32 31,kI 32 (.mov 33 (.t 8)),kI 32 (.len 34 (.t 33)),kI 32 (.bin 35 .eql (.t 34) (φ 0)),η (.pick 36 (.t 32) (.t 35) (χ false)),θ 6 36]
def f3b70:AQ:=ζ f3r69 .ret
def f3b71:AQ:=.cond (.t 30) f3b70 .skip
def f3r72:LA:=[θ 29 9,η (.bin 30 .neq (.t 29) (φ 0))]
def f3b73:AQ:=ζ f3r72 f3b71
def f3b74:AQ:=.seq f3b73 f3b68
def f3r75:LA:=[θ 24 0,θ 25 1,Ξ 26 10 24 25,θ 23 26,Δ 27 23 0,Δ 28 23 1,θ 8 27,θ 9 28]
def f3b76:AQ:=ζ f3r75 f3b74
def f3r77:LA:=[θ 22 7,θ 6 22]
def f3b78:AQ:=ζ f3r77 .ret
def f3b79:AQ:=.cond (.t 21) f3b78 .skip
def f3r80:LA:=[θ 18 0,θ 19 1,Ξ 20 9 18 19,η (.un 21 .not (.t 20))]
def f3b81:AQ:=ζ f3r80 f3b79
def f3b82:AQ:=.seq f3b81 f3b76
def f3r83:LA:=[η (.call (some 17) 8 []),θ 7 17]
def f3b84:AQ:=ζ f3r83 f3b82
def f3r85:LA:=[η (.mov 6 (χ false))]
def f3b86:AQ:=ζ f3r85 f3b84
def f3:AQ:=f3b86
theorem hf3:zH Tryz.prog 3=some ⟨138,f3.erase,[(RX.t 6)]⟩:=by kernel_rfl
def f8r1:LA:=[θ 162 20,θ 163 162,kI 163 (.mov 164 (.t 14)),kI 163 (.bin 165 .eql (.t 164) (φ 0)),η (.pick 166 (.t 163) (.t 165) (χ false)),θ 167 166,kI 167 (.mov 168 (.t 8)),kI 167 (.bslice 169 3 1 [(.int .i64 0)] 1 [(0,(φ 3))])]
def f8r2:LA:=[kI 167 (.build 170 [(.list 0 (some true) []),(.list 0 (some true) []),(.bool false)] [(0,(1,(.t 169))),(2,(1,(χ true)))]),kI 167 (.bslice 171 3 1 [(.int .i64 0)] 2 [(0,(φ 0)),(1,(φ 1))])]
def f8r3:LA:=[kI 167 (.mov 172 (.t 3)),kI 167 (.build 173 [(.list 0 (some true) []),(.list 0 (some true) []),(.bool false)] [(0,(1,(.t 171))),(1,(1,(.t 172))),(2,(1,(χ true)))]),kI 167 (.bslice 174 3 1 [(.int .i64 0)] 1 [(0,(φ 0))])]
def f8r4:LA:=[kI 167 (.mov 175 (.t 3)),kI 167 (.build 176 [(.list 0 (some true) []),(.list 0 (some true) []),(.bool false)] [(0,(1,(.t 174))),(1,(1,(.t 175)))]),kI 167 (.bslice 177 3 1 [(.int .i64 0)] 1 [(0,(φ 1))])]
def f8r5:LA:=[kI 167 (.mov 178 (.t 3)),kI 167 (.build 179 [(.list 0 (some true) []),(.list 0 (some true) []),(.bool false)] [(0,(1,(.t 177))),(1,(1,(.t 178)))]),kI 167 (.bslice 180 33 3 [(.list 0 (some true) []),(.list 0 (some true) []),(.bool false)] 4 [(0,(.t 170)),(1,(.t 173)),(2,(.t 176)),(3,(.t 179))])]
def f8r6:LA:=[kI 167 (.call (some 181) 25 [(.t 168),(.t 180)]),η (.pick 182 (.t 167) (.t 181) (χ false)),θ 0 182]
def f8b7:AQ:=.seq (.regs [(f8r1,[169]),(f8r2,[171]),(f8r3,[174]),(f8r4,[177]),(f8r5,[180]),(f8r6,[])]) .ret
def f8r8:LA:=[θ 134 4,Ω 135 134,η (.bin 136 .eql (.t 135) (φ 0)),θ 137 136,kI 137 (.mov 138 (.t 10)),kI 137 (.bin 139 .eql (.t 138) (φ 1)),η (.pick 140 (.t 137) (.t 139) (χ false)),θ 141 140,kI 141 (.mov 142 (.t 6)),kI 141 (.bslice 143 3 1 [(.int .i64 0)] 1 [(0,(φ 0))])]
def f8r9:LA:=[kI 141 (.mov 144 (.t 3)),kI 141 (.build 145 [(.list 0 (some true) []),(.list 0 (some true) []),(.bool false)] [(0,(1,(.t 143))),(1,(1,(.t 144)))]),kI 141 (.bslice 146 33 3 [(.list 0 (some true) []),(.list 0 (some true) []),(.bool false)] 1 [(0,(.t 145))])]
def f8r10:LA:=[kI 141 (.call (some 147) 25 [(.t 142),(.t 146)]),η (.pick 148 (.t 141) (.t 147) (χ false)),θ 149 148,kI 149 (.mov 150 (.t 12)),kI 149 (.bin 151 .eql (.t 150) (φ 2)),η (.pick 152 (.t 149) (.t 151) (χ false)),θ 153 152,kI 153 (.mov 154 (.t 18)),kI 153 (.iaddr 155 3 (.t 154) (φ 0)),kI 153 (.faddr 156 2 (.t 155)),kI 153 (.load 157 1 false (.t 156)),kI 153 (.iaddr 158 1 (.t 157) (φ 0)),kI 153 (.load 159 1 false (.t 158)),kI 153 (.bin 160 .eql (.t 159) (.v (.k (.c (.str [55,48,48]))))),η (.pick 161 (.t 153) (.t 160) (χ false)),θ 20 161]
def f8b11:AQ:=.seq (.regs [(f8r8,[143]),(f8r9,[146]),(f8r10,[])]) f8b7
def f8r12:LA:=[η (.mov 0 (χ false))]
def f8b13:AQ:=ζ f8r12 .ret
def f8b14:AQ:=.cond (.t 133) f8b13 .skip
def f8r15:LA:=[θ 87 5,η (.bin 88 .neq (.t 87) (φ 0)),θ 89 88,zAA 89 (.mov 90 (.t 7)),zAA 89 (.bin 91 .neq (.t 90) (φ 0)),η (.pick 92 (.t 89) (χ true) (.t 91)),θ 93 92,zAA 93 (.mov 94 (.t 9)),zAA 93 (.bin 95 .neq (.t 94) (φ 0)),η (.pick 96 (.t 93) (χ true) (.t 95)),θ 97 96,zAA 97 (.mov 98 (.t 11)),zAA 97 (.bin 99 .neq (.t 98) (φ 0)),η (.pick 100 (.t 97) (χ true) (.t 99)),θ 101 100,zAA 101 (.mov 102 (.t 13)),zAA 101 (.bin 103 .neq (.t 102) (φ 0)),η (.pick 104 (.t 101) (χ true) (.t 103)),θ 105 104,zAA 105 (.mov 106 (.t 15)),zAA 105 (.bin 107 .neq (.t 106) (φ 0)),η (.pick 108 (.t 105) (χ true) (.t 107)),θ 109 108,zAA 109 (.mov 110 (.t 17)),zAA 109 (.bin 111 .neq (.t 110) (φ 0)),η (.pick 112 (.t 109) (χ true) (.t 111)),θ 113 112,zAA 113 (.mov 114 (.t 19)),zAA 113 (.bin 115 .neq (.t 114) (φ 0)),η (.pick 116 (.t 113) (χ true) (.t 115)),θ 117 116,zAA 117 (.mov 118 (.t 16)),zAA 117 (.bin 119 .neq (.t 118) (φ 2)),η (.pick 120 (.t 117) (χ true) (.t 119)),θ 121 120,zAA 121 (.mov 122 (.t 18)),zAA 121 (.len 123 (.t 122)),zAA 121 (.bin 124 .neq (.t 123) (φ 1)),η (.pick 125 (.t 121) (χ true) (.t 124)),θ 126 125,zAA 126 (.mov 127 (.t 18)),zAA 126 (.iaddr 128 3 (.t 127) (φ 0)),zAA 126 (.faddr 129 2 (.t 128)),zAA 126 (.load 130 1 false (.t 129)),zAA 126 (.len 131 (.t 130)),zAA 126 (.bin 132 .neq (.t 131) (φ 2)),η (.pick 133 (.t 126) (χ true) (.t 132))]
def f8b16:AQ:=ζ f8r15 f8b14
def f8b17:AQ:=.seq f8b16 f8b11
def f8r18:LA:=[θ 83 2,η (.call (some 84) 14 [(.t 83),(φ 1)]),θ 82 84,Δ 85 82 0,Δ 86 82 1,θ 18 85,θ 19 86]
def f8b19:AQ:=ζ f8r18 f8b17
def f8r20:LA:=[θ 78 2,Θ 79 13 78,θ 77 79,Δ 80 77 0,Δ 81 77 1,θ 16 80,θ 17 81]
def f8b21:AQ:=ζ f8r20 f8b19
def f8r22:LA:=[θ 72 1,θ 73 2,Ξ 74 12 72 73,θ 71 74,Δ 75 71 0,Δ 76 71 1,θ 14 75,θ 15 76]
def f8b23:AQ:=ζ f8r22 f8b21
def f8r24:LA:=[θ 60 1,η (.iaddr 61 8 (.t 60) (φ 0)),ω 62 8 61,θ 63 1,η (.iaddr 64 8 (.t 63) (φ 2)),ω 65 8 64,η (.bslice 66 46 8 [(.int .i64 0),(.str []),(.str []),(.str []),(.str []),(.str []),(.int .i64 0),(.int .i64 0)] 2 [(0,(.t 62)),(1,(.t 65))]),θ 67 2,Ξ 68 12 66 67,θ 59 68,Δ 69 59 0,Δ 70 59 1,θ 12 69,θ 13 70]
def f8b25:AQ:=.seq (.draw f8r24 [[],[0],[1],[],[3],[4],[2,5],[],[6,7],[8],[9],[9],[10,8,0,1,2,3,4,5,6,7,8,9,10],[11,12,0,1,2,3,4,5,6,7,8,9,10,11,12]]) f8b23
def f8r26:LA:=[θ 53 1,η (.slice 54 8 (.t 53) (some (φ 2)) (some (φ 3))),θ 55 2,Ξ 56 12 54 55,θ 52 56,Δ 57 52 0,Δ 58 52 1,θ 10 57,θ 11 58]
def f8b27:AQ:=ζ f8r26 f8b25
def f8r28:LA:=[θ 47 1,θ 48 2,Ξ 49 10 47 48,θ 46 49,Δ 50 46 0,Δ 51 46 1,θ 8 50,θ 9 51]
def f8b29:AQ:=ζ f8r28 f8b27
def f8r30:LA:=[θ 35 1,η (.iaddr 36 8 (.t 35) (φ 0)),ω 37 8 36,θ 38 1,η (.iaddr 39 8 (.t 38) (φ 2)),ω 40 8 39,η (.bslice 41 46 8 [(.int .i64 0),(.str []),(.str []),(.str []),(.str []),(.str []),(.int .i64 0),(.int .i64 0)] 2 [(0,(.t 37)),(1,(.t 40))]),θ 42 2,Ξ 43 10 41 42,θ 34 43,Δ 44 34 0,Δ 45 34 1,θ 6 44,θ 7 45]
def f8b31:AQ:=.seq (.draw f8r30 [[],[0],[1],[],[3],[4],[2,5],[],[6,7],[8],[9],[9],[10,8,0,1,2,3,4,5,6,7,8,9,10],[11,12,0,1,2,3,4,5,6,7,8,9,10,11,12]]) f8b29
def f8r32:LA:=[θ 28 1,η (.slice 29 8 (.t 28) (some (φ 2)) (some (φ 3))),θ 30 2,Ξ 31 10 29 30,θ 27 31,Δ 32 27 0,Δ 33 27 1,θ 4 32,θ 5 33]
def f8b33:AQ:=ζ f8r32 f8b31
def f8r34:LA:=[η (.build 25 [(.int .i64 0),(.int .i64 0)] [(0,(1,(φ 0))),(1,(1,(φ 0)))]),η (.bslice 26 64 2 [(.int .i64 0),(.int .i64 0)] 1 [(0,(.t 25))])]
def f8r35:LA:=[θ 3 26]
def f8b36:AQ:=.seq (.regf f8r34 [26] f8r35) f8b33
def f8r37:LA:=[η (.call (some 22) 29 []),θ 21 22,Δ 23 21 0,Δ 24 21 1,θ 1 23,θ 2 24]
def f8b38:AQ:=ζ f8r37 f8b36
def f8r39:LA:=[η (.mov 0 (χ false))]
def f8b40:AQ:=ζ f8r39 f8b38
def f8:AQ:=f8b40
theorem hf8:zH Tryz.prog 8=some ⟨183,f8.erase,[(RX.t 0)]⟩:=by kernel_rfl
theorem okf8:f8.ok=true:=by kernel_rfl
def Υ8:=PLift.up (ξ (uu f8.eq_1)<|ξ (vv f8r37.eq_1)<|ξ (uu f8b38.eq_1)<|ξ (vv f8r39.eq_1)<|ξ (uu f8b40.eq_1)<|ξ (vv f8r32.eq_1)<|ξ (uu f8b33.eq_1)<|ξ (vv f8r34.eq_1)<|ξ (vv f8r35.eq_1)<|ξ (uu f8b36.eq_1)<|ξ (vv f8r30.eq_1)<|ξ (uu f8b31.eq_1)<|ξ (vv f8r28.eq_1)<|ξ (uu f8b29.eq_1)<|ξ (vv f8r26.eq_1)<|ξ (uu f8b27.eq_1)<|ξ (vv f8r24.eq_1)<|ξ (uu f8b25.eq_1)<|ξ (vv f8r22.eq_1)<|ξ (uu f8b23.eq_1)<|ξ (vv f8r20.eq_1)<|ξ (uu f8b21.eq_1)<|ξ (vv f8r18.eq_1)<|ξ (uu f8b19.eq_1)<|ξ (vv f8r8.eq_1)<|ξ (vv f8r9.eq_1)<|ξ (vv f8r10.eq_1)<|ξ (uu f8b11.eq_1)<|ξ (uu f8b14.eq_1)<|ξ (vv f8r15.eq_1)<|ξ (uu f8b16.eq_1)<|ξ (uu f8b17.eq_1)<|ξ (vv f8r1.eq_1)<|ξ (vv f8r2.eq_1)<|ξ (vv f8r3.eq_1)<|ξ (vv f8r4.eq_1)<|ξ (vv f8r5.eq_1)<|ξ (vv f8r6.eq_1)<|uu f8b7.eq_1)
theorem Ψ8:type_of% Υ8.1:=Υ8.1
def f65r1:LA:=[θ 6 0,Θ 7 104 6,θ 2 7]
def f65b2:AQ:=ζ f65r1 .ret
def f65r3:LA:=[θ 3 0,η (.conv 4 .u32 (.t 3)),Θ 5 103 4,θ 2 5]
def f65b4:AQ:=ζ f65r3 .ret
def f65b5:AQ:=.cond (.v (.k (.c (.bool false)))) f65b4 .skip
def f65b6:AQ:=.seq f65b5 f65b2
def f65r7:LA:=[η (.mov 2 (φ 0))]
def f65b8:AQ:=ζ f65r7 f65b6
def f65:AQ:=f65b8
theorem hf65:zH Tryz.prog 65=some ⟨8,f65.erase,[(RX.t 2)]⟩:=by kernel_rfl
theorem okf65:f65.ok=true:=by kernel_rfl
def Υ65:=PLift.up (ξ (uu f65.eq_1)<|ξ (vv f65r1.eq_1)<|ξ (uu f65b2.eq_1)<|ξ (uu f65b5.eq_1)<|ξ (uu f65b6.eq_1)<|ξ (vv f65r7.eq_1)<|uu f65b8.eq_1)
theorem Ψ65:type_of% Υ65.1:=Υ65.1
def f75r1:LA:=[θ 6 0,Θ 7 111 6,θ 2 7]
def f75b2:AQ:=ζ f75r1 .ret
def f75r3:LA:=[θ 3 0,η (.conv 4 .u32 (.t 3)),Θ 5 110 4,θ 2 5]
def f75b4:AQ:=ζ f75r3 .ret
def f75b5:AQ:=.cond (.v (.k (.c (.bool false)))) f75b4 .skip
def f75b6:AQ:=.seq f75b5 f75b2
def f75r7:LA:=[η (.mov 2 (φ 0))]
def f75b8:AQ:=ζ f75r7 f75b6
def f75:AQ:=f75b8
theorem hf75:zH Tryz.prog 75=some ⟨8,f75.erase,[(RX.t 2)]⟩:=by kernel_rfl
theorem okf75:f75.ok=true:=by kernel_rfl
def Υ75:=PLift.up (ξ (uu f75.eq_1)<|ξ (vv f75r1.eq_1)<|ξ (uu f75b2.eq_1)<|ξ (uu f75b5.eq_1)<|ξ (uu f75b6.eq_1)<|ξ (vv f75r7.eq_1)<|uu f75b8.eq_1)
theorem Ψ75:type_of% Υ75.1:=Υ75.1
def f104r1:LA:=[θ 32 0,η (.conv 33 .i64 (.t 32)),η (.bin 34 .and (.t 33) (φ 127)),θ 2 34]
def f104b2:AQ:=ζ f104r1 .ret
def f104r3:LA:=[θ 28 0,θ 29 0,η (.bin 30 .shr (.t 29) (.v (.k (.c (.int .u64 32))))),vX 31 .add 28 30,θ 0 31]
def f104b4:AQ:=ζ f104r3 f104b2
def f104r5:LA:=[θ 24 0,θ 25 0,η (.bin 26 .shr (.t 25) (.v (.k (.c (.int .u64 16))))),vX 27 .add 24 26,θ 0 27]
def f104b6:AQ:=ζ f104r5 f104b4
def f104r7:LA:=[θ 20 0,θ 21 0,η (.bin 22 .shr (.t 21) (.v (.k (.c (.int .u64 8))))),vX 23 .add 20 22,θ 0 23]
def f104b8:AQ:=ζ f104r7 f104b6
def f104r9:LA:=[θ 15 0,η (.bin 16 .shr (.t 15) (.v (.k (.c (.int .u64 4))))),θ 17 0,vX 18 .add 16 17,η (.bin 19 .and (.t 18) (.v (.k (.c (.int .u64 1085102592571150095))))),θ 0 19]
def f104b10:AQ:=ζ f104r9 f104b8
def f104r11:LA:=[θ 9 0,η (.bin 10 .shr (.t 9) (.v (.k (.c (.int .u64 2))))),η (.bin 11 .and (.t 10) (.v (.k (.c (.int .u64 3689348814741910323))))),θ 12 0,η (.bin 13 .and (.t 12) (.v (.k (.c (.int .u64 3689348814741910323))))),vX 14 .add 11 13,θ 0 14]
def f104b12:AQ:=ζ f104r11 f104b10
def f104r13:LA:=[θ 3 0,η (.bin 4 .shr (.t 3) (.v (.k (.c (.int .u64 1))))),η (.bin 5 .and (.t 4) (.v (.k (.c (.int .u64 6148914691236517205))))),θ 6 0,η (.bin 7 .and (.t 6) (.v (.k (.c (.int .u64 6148914691236517205))))),vX 8 .add 5 7,θ 0 8]
def f104b14:AQ:=ζ f104r13 f104b12
def f104r15:LA:=[η (.mov 2 (φ 0))]
def f104b16:AQ:=ζ f104r15 f104b14
def f104:AQ:=f104b16
theorem hf104:zH Tryz.prog 104=some ⟨35,f104.erase,[(RX.t 2)]⟩:=by kernel_rfl
theorem okf104:f104.ok=true:=by kernel_rfl
def Υ104:=PLift.up (ξ (uu f104.eq_1)<|ξ (vv f104r1.eq_1)<|ξ (uu f104b2.eq_1)<|ξ (vv f104r3.eq_1)<|ξ (uu f104b4.eq_1)<|ξ (vv f104r5.eq_1)<|ξ (uu f104b6.eq_1)<|ξ (vv f104r7.eq_1)<|ξ (uu f104b8.eq_1)<|ξ (vv f104r9.eq_1)<|ξ (uu f104b10.eq_1)<|ξ (vv f104r11.eq_1)<|ξ (uu f104b12.eq_1)<|ξ (vv f104r13.eq_1)<|ξ (uu f104b14.eq_1)<|ξ (vv f104r15.eq_1)<|uu f104b16.eq_1)
theorem Ψ104:type_of% Υ104.1:=Υ104.1
def f4r1:LA:=[θ 193 7,θ 194 193,kI 194 (.mov 195 (.t 15)),kI 194 (.bin 196 .eql (.t 195) (φ 0)),η (.pick 197 (.t 194) (.t 196) (χ false)),θ 198 197,kI 198 (.mov 199 (.t 17)),kI 198 (.mov 200 (.t 16)),kI 198 (.len 201 (.t 200)),kI 198 (.bin 202 .eql (.t 199) (.t 201)),η (.pick 203 (.t 198) (.t 202) (χ false)),θ 204 203,kI 204 (.mov 205 (.t 10)),kI 204 (.bin 206 .eql (.t 205) (φ 0)),kI 204 (.mov 207 (.t 18)),kI 204 (.binB 208 false (.t 206) (.t 207)),η (.pick 209 (.t 204) (.t 208) (χ false)),θ 210 209,kI 210 (.mov 211 (.t 10)),kI 210 (.bin 212 .eql (.t 211) (φ 1)),kI 210 (.mov 213 (.t 8)),kI 210 (.len 214 (.t 213)),kI 210 (.bin 215 .eql (.t 214) (φ 0)),kI 210 (.binB 216 false (.t 212) (.t 215)),η (.pick 217 (.t 210) (.t 216) (χ false)),θ 6 217]
def f4b2:AQ:=ζ f4r1 .ret
def f4r3:LA:=[θ 87 19,η (.bin 88 .add (.t 87) (φ 1)),θ 19 88]
def f4r4:LA:=[η (.mov 6 (χ false))]
def f4b5:AQ:=ζ f4r4 .ret
def f4b6:AQ:=.cond (.t 192) f4b5 .skip
def f4r7:LA:=[θ 192 24]
def f4b8:AQ:=ζ f4r7 f4b6
def f4r9:LA:=[θ 181 25,η (.bin 182 .add (.t 181) (φ 1)),θ 25 182]
def f4r10:LA:=[θ 183 24,θ 184 183,kI 184 (.mov 185 (.t 0)),kI 184 (.faddr 186 0 (.t 20)),kI 184 (.load 187 1 false (.t 186)),kI 184 (.mov 188 (.t 1)),kI 184 (.mov 189 (.t 25)),kI 184 (.call (some 190) 17 [(.t 185),(.t 187),(.t 188),(.t 189)]),η (.pick 191 (.t 184) (.t 190) (χ false)),θ 24 191]
def f4b11:AQ:=.block 7 (.region f4r10)
def f4b12:AQ:=.seq f4b11 (.region f4r9)
def f4b13:AQ:=.cond (.t 180) .skip (.exit 6)
def f4r14:LA:=[θ 178 25,θ 179 12,vX 180 .lss 178 179]
def f4b15:AQ:=ζ f4r14 f4b13
def f4b16:AQ:=.seq f4b15 f4b12
def f4l17:AQ:=.loop [0,1,7,8,10,12,14,15,16,17,18,19,20,24,25] [20,35,77,82,36000,36001,36002,78000,78001,78002,83000,83001,83002] f4b16
def f4b18:AQ:=.block 6 f4l17
def f4r19:LA:=[η (.mov 25 (φ 0))]
def f4b20:AQ:=ζ f4r19 f4b18
def f4b21:AQ:=.seq f4b20 f4b8
def f4r22:LA:=[Γ 175 2 20,ψ 176 1 175,η (.un 177 .not (.t 176)),θ 24 177]
def f4b23:AQ:=ζ f4r22 f4b21
def f4r24:LA:=[η (.mov 6 (χ false))]
def f4b25:AQ:=ζ f4r24 .ret
def f4b26:AQ:=.cond (.t 174) f4b25 .skip
def f4r27:LA:=[θ 141 22,Γ 142 1 20,ψ 143 1 142,Ω 144 143,vX 145 .lss 141 144,θ 146 145,zAA 146 (.mov 147 (.t 22)),zAA 146 (.bin 148 .gtr (.t 147) (φ 0)),zAA 146 (.mov 149 (.t 148)),kI 149 (.faddr 150 1 (.t 20)),kI 149 (.load 151 1 false (.t 150)),kI 149 (.len 152 (.t 151)),kI 149 (.bin 153 .eql (.t 152) (φ 0)),zAA 146 (.pick 154 (.t 149) (.t 153) (χ false)),η (.pick 155 (.t 146) (χ true) (.t 154)),θ 156 155,zAA 156 (.faddr 157 2 (.t 20)),zAA 156 (.load 158 1 false (.t 157)),zAA 156 (.un 159 .not (.t 158)),zAA 156 (.mov 160 (.t 159)),kI 160 (.faddr 161 0 (.t 20)),kI 160 (.load 162 1 false (.t 161)),kI 160 (.len 163 (.t 162)),kI 160 (.bin 164 .neq (.t 163) (φ 1)),kI 160 (.mov 165 (.t 164)),zAA 165 (.mov 166 (.t 0)),zAA 165 (.faddr 167 0 (.t 20)),zAA 165 (.load 168 1 false (.t 167)),zAA 165 (.mov 169 (.t 1)),zAA 165 (.call (some 170) 11 [(.t 166),(.t 168),(.t 169)]),zAA 165 (.un 171 .not (.t 170)),kI 160 (.pick 172 (.t 165) (χ true) (.t 171)),zAA 156 (.pick 173 (.t 160) (.t 172) (χ false)),η (.pick 174 (.t 156) (χ true) (.t 173))]
def f4b28:AQ:=ζ f4r27 f4b26
def f4b29:AQ:=.seq f4b28 f4b23
def f4r30:LA:=[θ 126 23,η (.bin 127 .add (.t 126) (φ 1)),θ 23 127]
def f4r31:LA:=[θ 128 22,θ 129 0,Γ 130 0 20,ψ 131 1 130,θ 132 23,Ψ 133 1 131 132,ψ 134 1 133,Ψ 135 8 129 134,ω 136 8 135,θ 137 14,Ξ 138 16 136 137,Ω 139 138,vX 140 .add 128 139,θ 22 140]
def f4b32:AQ:=.block 5 (.region f4r31)
def f4b33:AQ:=.seq f4b32 (.region f4r30)
def f4b34:AQ:=.cond (.t 125) .skip (.exit 4)
def f4r35:LA:=[θ 121 23,Γ 122 0 20,ψ 123 1 122,Ω 124 123,vX 125 .lss 121 124]
def f4b36:AQ:=ζ f4r35 f4b34
def f4b37:AQ:=.seq f4b36 f4b33
def f4l38:AQ:=.loop [0,1,7,8,10,12,14,15,16,17,18,19,20,22,23] [20,35,77,82,36000,36001,36002,78000,78001,78002,83000,83001,83002] f4b37
def f4b39:AQ:=.block 4 f4l38
def f4r40:LA:=[η (.mov 23 (φ 0))]
def f4b41:AQ:=ζ f4r40 f4b39
def f4b42:AQ:=.seq f4b41 f4b29
def f4r43:LA:=[η (.mov 22 (φ 0))]
def f4b44:AQ:=ζ f4r43 f4b42
def f4r45:LA:=[θ 102 21,η (.bin 103 .add (.t 102) (φ 1)),θ 21 103]
def f4r46:LA:=[θ 119 17,η (.bin 120 .add (.t 119) (φ 1)),θ 17 120]
def f4b47:AQ:=.cond (.t 118) (.region f4r46) .skip
def f4r48:LA:=[Γ 104 0 20,ψ 105 1 104,Ω 106 105,η (.bin 107 .eql (.t 106) (φ 1)),θ 108 107,kI 108 (.faddr 109 0 (.t 20)),kI 108 (.load 110 1 false (.t 109)),kI 108 (.iaddr 111 1 (.t 110) (φ 0)),kI 108 (.load 112 1 false (.t 111)),kI 108 (.mov 113 (.t 16)),kI 108 (.mov 114 (.t 21)),kI 108 (.iaddr 115 1 (.t 113) (.t 114)),kI 108 (.load 116 1 false (.t 115)),kI 108 (.bin 117 .eql (.t 112) (.t 116)),η (.pick 118 (.t 108) (.t 117) (χ false))]
def f4b49:AQ:=.seq (.draw f4r48 [[],[0],[1],[2],[3],[4],[5,4],[6,4],[7,4],[4],[4],[9,10,4],[11,4],[8,12,4],[4,13]]) f4b47
def f4b50:AQ:=.block 3 f4b49
def f4b51:AQ:=.seq f4b50 (.region f4r45)
def f4b52:AQ:=.cond (.t 101) .skip (.exit 2)
def f4r53:LA:=[θ 98 21,θ 99 16,Ω 100 99,vX 101 .lss 98 100]
def f4b54:AQ:=ζ f4r53 f4b52
def f4b55:AQ:=.seq f4b54 f4b51
def f4l56:AQ:=.loop [0,1,7,8,10,12,14,15,16,17,18,19,20,21] [20,35,77,82,36000,36001,36002,78000,78001,78002,83000,83001,83002] f4b55
def f4b57:AQ:=.block 2 f4l56
def f4r58:LA:=[η (.mov 21 (φ 0))]
def f4b59:AQ:=ζ f4r58 f4b57
def f4b60:AQ:=.seq f4b59 f4b44
def f4r61:LA:=[θ 93 18,θ 94 93,zAA 94 (.faddr 95 2 (.t 20)),zAA 94 (.load 96 1 false (.t 95)),η (.pick 97 (.t 94) (χ true) (.t 96)),θ 18 97]
def f4b62:AQ:=ζ f4r61 f4b60
def f4r63:LA:=[θ 89 8,θ 90 19,Ψ 91 3 89 90,ω 92 3 91,η (.alloc 20 33 [(.list 0 (some true) []),(.list 0 (some true) []),(.bool false)]),Φ 3 20 92]
def f4b64:AQ:=ζ f4r63 (.frz 20 f4b62)
def f4b65:AQ:=.block 1 f4b64
def f4b66:AQ:=.seq f4b65 (.region f4r3)
def f4b67:AQ:=.cond (.t 86) .skip (.exit 0)
def f4r68:LA:=[θ 83 19,θ 84 8,Ω 85 84,vX 86 .lss 83 85]
def f4b69:AQ:=ζ f4r68 f4b67
def f4b70:AQ:=.seq f4b69 f4b66
def f4l71:AQ:=.loop [0,1,7,8,10,12,14,15,16,17,18,19] [35,77,82,36000,36001,36002,78000,78001,78002,83000,83001,83002] f4b70
def f4b72:AQ:=.block 0 f4l71
def f4r73:LA:=[η (.mov 19 (φ 0))]
def f4b74:AQ:=ζ f4r73 f4b72
def f4b75:AQ:=.seq f4b74 f4b2
def f4r76:LA:=[η (.mov 18 (χ false))]
def f4b77:AQ:=ζ f4r76 f4b75
def f4r78:LA:=[η (.mov 17 (φ 0))]
def f4b79:AQ:=ζ f4r78 f4b77
def f4r80:LA:=[θ 80 0,θ 81 14,Ξ 82 15 80 81,θ 16 82]
def f4b81:AQ:=ζ f4r80 f4b79
def f4r82:LA:=[θ 72 1,θ 73 2,η (.conv 74 .i64 (.t 73)),θ 75 12,vX 76 .rem 74 75,Ξ 77 14 72 76,θ 71 77,Δ 78 71 0,Δ 79 71 1,θ 14 78,θ 15 79]
def f4b83:AQ:=ζ f4r82 f4b81
def f4r84:LA:=[η (.mov 6 (χ false))]
def f4b85:AQ:=ζ f4r84 .ret
def f4b86:AQ:=.cond (.t 70) f4b85 .skip
def f4r87:LA:=[θ 61 11,η (.bin 62 .neq (.t 61) (φ 0)),θ 63 62,zAA 63 (.mov 64 (.t 13)),zAA 63 (.bin 65 .neq (.t 64) (φ 0)),η (.pick 66 (.t 63) (χ true) (.t 65)),θ 67 66,zAA 67 (.mov 68 (.t 12)),zAA 67 (.bin 69 .lss (.t 68) (φ 1)),η (.pick 70 (.t 67) (χ true) (.t 69))]
def f4b88:AQ:=ζ f4r87 f4b86
def f4b89:AQ:=.seq f4b88 f4b83
def f4r90:LA:=[θ 51 7,θ 52 51,kI 52 (.mov 53 (.t 11)),kI 52 (.mov 54 (.t 9)),kI 52 (.bin 55 .eql (.t 53) (.t 54)),η (.pick 56 (.t 52) (.t 55) (χ false)),θ 57 56,kI 57 (.mov 58 (.t 10)),kI 57 (.bin 59 .eql (.t 58) (φ 0)),η (.pick 60 (.t 57) (.t 59) (χ false)),θ 6 60]
def f4b91:AQ:=ζ f4r90 .ret
def f4b92:AQ:=.cond (.t 50) f4b91 .skip
def f4r93:LA:=[θ 49 9,η (.bin 50 .neq (.t 49) (φ 0))]
def f4b94:AQ:=ζ f4r93 f4b92
def f4b95:AQ:=.seq f4b94 f4b89
def f4r96:LA:=[θ 45 1,Θ 46 13 45,θ 44 46,Δ 47 44 0,Δ 48 44 1,θ 12 47,θ 13 48]
def f4b97:AQ:=ζ f4r96 f4b95
def f4r98:LA:=[θ 39 0,θ 40 1,Ξ 41 12 39 40,θ 38 41,Δ 42 38 0,Δ 43 38 1,θ 10 42,θ 11 43]
def f4b99:AQ:=ζ f4r98 f4b97
def f4r100:LA:=[θ 33 0,θ 34 1,Ξ 35 10 33 34,θ 32 35,Δ 36 32 0,Δ 37 32 1,θ 8 36,θ 9 37]
def f4b101:AQ:=ζ f4r100 f4b99
def f4r102:LA:=[θ 31 7,θ 6 31]
def f4b103:AQ:=ζ f4r102 .ret
def f4b104:AQ:=.cond (.t 30) f4b103 .skip
def f4r105:LA:=[θ 27 0,θ 28 1,Ξ 29 9 27 28,η (.un 30 .not (.t 29))]
def f4b106:AQ:=ζ f4r105 f4b104
def f4b107:AQ:=.seq f4b106 f4b101
def f4r108:LA:=[η (.call (some 26) 8 []),θ 7 26]
def f4b109:AQ:=ζ f4r108 f4b107
def f4r110:LA:=[η (.mov 6 (χ false))]
def f4b111:AQ:=ζ f4r110 f4b109
def f4:AQ:=f4b111
theorem hf4:zH Tryz.prog 4=some ⟨218,f4.erase,[(RX.t 6)]⟩:=by kernel_rfl
end Go.Abs
namespace Go.Abs
theorem wrap_in {n:Int} (h1: -9223372036854775808<=n) (h2:n<=9223372036854775807):IntKind.i64.wrap n=n:=IntWalk.i64_in n ⟨h1,h2⟩
def zC (sz:Nat) (rows:List (List C)):C:=.list (if rows.isEmpty then 0 else sz) none rows
abbrev lst (sz:Nat) (rows:List (List C)):V:=.k (.c (zC sz rows))
def zM (l:List Int):List (List C):=l.map fun n=>[.int .i64 n]
theorem zI {α:Type} (f:α->List C) (l:List α):(l.map f).length=l.length:=by simp
theorem zP {α:Type} {f:α->List C} (hf: ∀x,C.normRow (f x)=f x) (l:List α):C.normRows (l.map f)=l.map f:=by
 induction l with
 |nil=>rfl
 |cons a l ih=>simp[C.normRows,hf,ih]
theorem yG {α:Type} {f:α->List C} (hf: ∀x,C.normRow (f x)=f x) (sz:Nat) (l:List α):(zC sz (l.map f)).norm=zC sz (l.map f):=by
 unfold zC;simp only[C.norm,zP hf];cases l<;>simp
inductive Term where
 |mk (op n:Int) (args:List Term)
 deriving Inhabited
def Term.op:Term->Int| .mk o _ _=>o
def Term.n:Term->Int| .mk _ n _=>n
def Term.args:Term->List Term| .mk _ _ a=>a
mutual
def sM:Term->List C
 | .mk o n a=>[.int .i64 o,.int .i64 n,zC 3 (encTs a)]
def encTs:List Term->List (List C)
 |[]=>[]
 |t::l=>sM t::encTs l
end
theorem zgY: ∀(l:List Term),encTs l=l.map sM
 |[]=>rfl
 |t::l=>by simp[encTs,zgY l]
theorem lU (t:Term):sM t=[.int .i64 t.op,.int .i64 t.n,zC 3 (t.args.map sM)]:=by
 cases t with
 |mk o n a=>simp[sM,Term.op,Term.n,Term.args,zgY]
mutual
theorem iQ: ∀(t:Term),C.normRow (sM t)=sM t
 | .mk o n a=>by
   simp only[sM,C.normRow,C.norm,zC,encTs_norm a];cases a<;>simp[encTs]
theorem encTs_norm: ∀(l:List Term),C.normRows (encTs l)=encTs l
 |[]=>rfl
 |t::l=>by simp only[encTs,C.normRows,iQ t,encTs_norm l]
end
structure Choice where
 ask:Int
 by_:Int
 whole:Bool
 deriving Inhabited
structure Rule where
 ask:Int
 term:Term
 deriving Inhabited
structure Order where
 name:List UInt8
 accepts:Bool
 choices:List Choice
 rules:List Rule
 deriving Inhabited
def rE (c:Choice):List C:=[.int .i64 c.ask,.int .i64 c.by_,.bool c.whole]
def sO (r:Rule):List C:=.int .i64 r.ask::sM r.term
def rF (o:Order):List C:=[.str o.name,.bool o.accepts,zC 3 (o.choices.map rE),zC 4 (o.rules.map sO)]
theorem cQ (c:Choice):C.normRow (rE c)=rE c:=rfl
theorem cR (r:Rule):C.normRow (sO r)=sO r:=by simp[sO,C.normRow,C.norm,iQ]
theorem zgZ (o:Order):C.normRow (rF o)=rF o:=by
 simp only[rF,C.normRow,C.norm,yG cQ,yG cR]
structure Cell where
 known:Bool
 n:Int
 deriving Inhabited
def rW (c:Cell):List C:=[.bool c.known,.int .i64 c.n]
theorem zg0 (c:Cell):C.normRow (rW c)=rW c:=rfl
def zg1 (n:Int):List C:=[.int .i64 n]
@[simp] theorem zoP (k:IntKind) (n:Int):C.normRow [.int k n]=[.int k n]:=rfl
@[simp] theorem zoQ (n:Int):C.normRow (zg1 n)=zg1 n:=rfl
attribute [simp] iQ cQ cR zgZ zg0 C.normRow
@[simp] theorem zoR (k:IntKind) (n:Int):(C.int k n).norm=.int k n:=rfl
@[simp] theorem zoS (b:Bool):(C.bool b).norm=.bool b:=rfl
@[simp] theorem zoT (s:List UInt8):(C.str s).norm=.str s:=rfl
@[simp] theorem zoU (row:List C) (off:Nat):(C.ro row off).norm=.ro (C.normRow row) off:=rfl
@[simp] theorem zoV (f:FuncId) (caps:List C):(C.fn f caps).norm=.fn f (C.normRow caps):=rfl
@[simp] theorem zoW (l:List Term):C.normRows (l.map sM)=l.map sM:=zP iQ l
@[simp] theorem zoX (l:List Choice):C.normRows (l.map rE)=l.map rE:=zP cQ l
@[simp] theorem zoY (l:List Rule):C.normRows (l.map sO)=l.map sO:=zP cR l
@[simp] theorem zoZ (l:List Order):C.normRows (l.map rF)=l.map rF:=zP zgZ l
@[simp] theorem zo0 (l:List Cell):C.normRows (l.map rW)=l.map rW:=zP zg0 l
@[simp] theorem vC (l:List Int):C.normRows (zM l)=zM l:=zP (fun _=>rfl) l
@[simp] theorem zo1:C.normRows []=[]:=rfl
@[simp] theorem iR (r:List C) (l:List (List C)):C.normRows (r::l)=C.normRow r::C.normRows l:=rfl
@[simp] theorem yL (l:List Int):(zM l).length=l.length:=by simp[zM]
theorem zlB {l:List Int} {i:Nat} (h:i<l.length):(zM l).getD i []=[.int .i64 l[i]]:=by simp[zM,h]
@[simp] theorem zo2 (l:List Int):(zM l).isEmpty=l.isEmpty:=by cases l<;>rfl
theorem cU (l:List Int) (n:Int):zM l++[[.int .i64 n]]=zM (l++[n]):=by simp[zM]
theorem zg2 (o:Nat->Option O) (sz:Nat) (rows:List (List C)):vLen o (.k (.c (zC sz rows)))=some (True,.int .i64 rows.length):=rfl
theorem zg3 (o:Nat->Option O) (sz:Nat) (rows:List (List C)) (k:IntKind) (n:Int):vIaddr o sz (.k (.c (zC sz rows))) (.k (.c (.int k n)))=some (0<=n/\n<rows.length,.k (.pel sz rows n.toNat 0)):=by
 simp only[zC,vIaddr,Ze,Y5];cases rows with
 |nil=>simp;omega
 |cons a l=>
  refine⟨?_,?_⟩
  ·simp
  ·simp
def cV (sz:Nat) (rows:List (List C)):Option Int->Option Int->Option (Prop×V)
 |some l,some h=>some (0<=l/\l<=h/\h<=rows.length,.list sz none ((rows.take h.toNat).drop l.toNat))
 |_,_=>none
theorem zg4 (sz:Nat) (lo hi:Option V) (rows:List (List C)):sX sz lo hi (.k (.c (zC sz rows)))=cV sz rows (vBound 0 lo) (vBound rows.length hi):=by
 simp only[zC,sX];generalize vBound 0 lo=a;generalize vBound (↑rows.length) hi=b;cases a<;>cases b<;>simp only[mP,cV]
 simp only[Ze,Y5,and_true];cases rows<;>simp
theorem zg5 (sz:Nat) (rows:List (List C)) (l h:Int):cV sz rows (some l) (some h)=some (0<=l/\l<=h/\h<=rows.length,.list sz none ((rows.take h.toNat).drop l.toNat)):=id rfl
theorem zlC (os:OS) (sz:Nat) (rows:List (List C)):srcV os sz (.k (.c (zC sz rows)))=some (True,rows):=by
 simp only[zC,srcV];cases rows<;>simp
@[simp] theorem zO (sz:Nat) (rows:List (List C)):(zC sz rows).norm=zC sz (C.normRows rows):=by
  unfold zC;simp only[C.norm];cases rows<;>simp[C.normRows]
@[simp] theorem vU (sz:Nat) (nl:Option Bool) (rows:List (List C)):(C.list sz nl rows).norm=zC sz (C.normRows rows):=by
  unfold zC;simp only[C.norm];cases rows<;>simp[C.normRows]
theorem zrc (d:Nat) (r:List C):(r.map Abs.K.c).all (Abs.K.noRef d)=true:=by induction r<;>simp_all [Abs.K.noRef]
section
variable {P : Program} {f : FuncId} {vs : List V} {K : KK} {d : Nat} {ts : TS} {os : OS}
theorem zF {args:List V} {r:V} {X:Prop} (hs:Spec P f args (fun r'=>r'=r)) (hk:K (insT d r ts) os)
  (hp:vs.all (fun v=>(zB os v).isPure)=true:=by simp[zB,vK,lookO,V.isPure])
  (ha:vs.map (fun v=>(zB os v).norm)=args:=by simp[zB,vK,lookO,V.norm,lU,sO,rF,rE,rW,vU,lst]) (hr:r.scalar=true:=by rfl):qY P f vs [] K (some d) ts os\/X:=by
 refine .inl ⟨hp,r,.inl ?_,?_⟩
 ·simpa [ha] using hs
 ·rw[if_pos hr];exact hk
theorem pC {cs:List C} {args:List V} {r:V} {X:Prop} (hs:Spec P f args (fun r'=>r'=r)) (hk:K (insT d r ts) os)
  (hp:vs.all (fun v=>(zB os v).isPure)=true:=by simp[zB,vK,lookO,V.isPure])
  (ha:(vs.map (fun v=>(zB os v).norm)++cs.map fun c=> .k (.c c.norm))=args:=by simp[zB,vK,lookO,V.norm,lU,sO,rF,rE,rW,vU,lst]) (hr:r.scalar=true:=by rfl):qY P f vs cs K (some d) ts os\/X:=by
 refine .inl ⟨hp,r,.inl (by rw[ha];exact hs),?_⟩;rw[if_pos hr];exact hk
theorem xI {args:List V} {r:V} {X:Prop} (hs:Spec P f args (fun r'=>r'=r)) (hk:retK r K ts os (some d))
  (hp:vs.all (fun v=>(zB os v).isPure)=true:=by simp[zB,vK,lookO,V.isPure])
  (ha:vs.map (fun v=>(zB os v).norm)=args:=by simp[zB,vK,lookO,V.norm,lU,sO,rF,rE,rW,vU,lst])
  (ht:vs.all (fun v=>v.toks.isEmpty)=true:=by simp[V.toks,K.toks]) (hr:r.scalar=false:=by rfl):qY P f vs [] K (some d) ts os\/X:=by
 refine .inl ⟨hp,r,.inl (by simpa [ha] using hs),?_⟩;rw[if_neg (by simp[hr])];exact⟨ht,hk⟩
theorem zrd {args:List V} {e sz:Nat} {nl:Option Bool} {rows:List (List C)} {X:Prop} (hs:Spec P f args (fun r'=>r'=.k (.newl e sz nl rows))) (hk:K (insT d (.k (.own d)) ts) (insO d (.arr e sz nl rows) os))
  (hp:vs.all (fun v=>(zB os v).isPure)=true:=by simp[zB,vK,lookO,V.isPure])
  (ha:vs.map (fun v=>(zB os v).norm)=args:=by simp[zB,vK,lookO,V.norm,lU,sO,rF,rE,rW,vU,lst])
  (ht:vs.all (fun v=>v.toks.isEmpty)=true:=by simp[V.toks,K.toks]) (hf:freeB d ts os:=by first|rfl|simp[freeB,freeT,freeO,V.noRef,V.noRefL,O.noRef,Abs.K.noRef,zrc]):qY P f vs [] K (some d) ts os\/X:=by
 refine .inl ⟨hp,_,.inl (by simpa [ha] using hs),?_⟩;rw[if_neg (by simp[V.scalar])];refine⟨ht,?_⟩;show regK _ _ _ _ _ _;refine⟨⟨⟨hf,.inl rfl⟩,trivial⟩,hk⟩
theorem rG {args:List V} {r:V} (hs:Spec P f args (fun r'=>r'=r)) (hk:K (insT d r.fz ts) os)
  (hp:vs.all (fun v=>(zB os v).isPure)=true:=by simp[zB,vK,lookO,V.isPure])
  (ha:vs.map (fun v=>(zB os v).norm)=args:=by simp[zB,vK,lookO,V.norm,lU,sO,rF,rE,rW,vU,lst]) (hr:r.scalar=true:=by rfl):lB P f vs [] K d ts os:=
 ⟨hp,r,by simpa [ha] using hs,.inl hr,hk⟩
theorem zg6 {args:List V} {r:V} (hs:Spec P f args (fun r'=>r'=r)) (hk:K (insT d r.fz ts) os)
  (hp:vs.all (fun v=>(zB os v).isPure)=true:=by simp[zB,vK,lookO,V.isPure])
  (ha:vs.map (fun v=>(zB os v).norm)=args:=by simp[zB,vK,lookO,V.norm,lU,sO,rF,rE,rW,vU,lst]) (hr:vs.all (fun v=>v.toks.isEmpty)=true:=by simp[V.toks,K.toks]):lB P f vs [] K d ts os:=
 ⟨hp,r,by simpa [ha] using hs,.inr hr,hk⟩
end
end Go.Abs
namespace Go.Abs
theorem Qs:(((((((((type_of% @zc6/\type_of% @zcd)/\(type_of% @zch/\type_of% @zcc))/\((type_of% @zc3/\type_of% @zbG)/\(type_of% @zcy/\(type_of% @true_and/\type_of% @zbH))))/\(((type_of% @zdi/\type_of% @zc9)/\(type_of% @zdy/\type_of% @zdc))/\((type_of% @zc4/\type_of% @zdz)/\(type_of% @zdA/\(type_of% @zcH/\type_of% @and_self)))))/\((((type_of% @zdd/\type_of% @zgr)/\(type_of% @zdo/\type_of% @zdB))/\((type_of% @zdF/\type_of% @Nat.zero_add)/\(type_of% @zc5/\(type_of% @zeE/\type_of% @zeF))))/\(((type_of% @zeG/\type_of% @zfZ)/\(type_of% @zf0/\(type_of% @zgt/\type_of% @zgs)))/\((type_of% @zdg/\type_of% @ze9)/\(type_of% @zfa/\(type_of% @zfb/\type_of% @zfc))))))/\(((((type_of% @zfd/\type_of% @zfh)/\(type_of% @zfm/\type_of% @zfe))/\((type_of% @zfs/\type_of% @zfy)/\(type_of% @zfH/\(type_of% @zfv/\type_of% @zfA))))/\(((type_of% @zfG/\type_of% @zdL)/\(type_of% @zc8/\(type_of% @zgd/\type_of% @zff)))/\((type_of% @Nat.le_refl/\type_of% @zcF)/\(type_of% @Bool.false_eq_true/\(type_of% @zcP/\type_of% @zde)))))/\((((type_of% @zf4/\type_of% @zgc)/\(type_of% @zf2/\type_of% @zO))/\((type_of% @zgl/\type_of% @zf1)/\(type_of% @zcR/\(type_of% @zcA/\type_of% @zg2))))/\(((type_of% @zel/\type_of% @zek)/\(type_of% @decide_true/\(type_of% @zfI/\type_of% @zgn)))/\((type_of% @zck/\type_of% @zc7)/\(type_of% @zbI/\(type_of% @zdw/\type_of% @zdx)))))))/\((((((type_of% @zcL/\type_of% @zd7)/\(type_of% @Int.toNat_natCast/\type_of% @Bool.and_true))/\((type_of% @zcp/\type_of% @zgm)/\(type_of% @Int.natCast_nonneg/\(type_of% @zeK/\type_of% @zeL))))/\(((type_of% @zeM/\type_of% @zeN)/\(type_of% @Bool.or_true/\type_of% @zea))/\((type_of% @decide_false/\type_of% @zdk)/\(type_of% @zgp/\(type_of% @zgu/\type_of% @zd6)))))/\((((type_of% @zg3/\type_of% @zfJ)/\(type_of% @zd0/\type_of% @zei))/\((type_of% @zf3/\type_of% @zfK)/\(type_of% @Nat.add_zero/\(type_of% @not_false_eq_true/\type_of% @zeI))))/\(((type_of% @zeJ/\type_of% @zeP)/\(type_of% @zeT/\(type_of% @zfE/\type_of% @zeQ)))/\((type_of% @zcM/\type_of% @zdl)/\(type_of% @zdG/\(type_of% @zdf/\type_of% @zdj))))))/\(((((type_of% @zdm/\type_of% @zgx)/\(type_of% @zgB/\type_of% @zgG))/\((type_of% @zgH/\type_of% @zcj)/\(type_of% @zd2/\(type_of% @zgg/\type_of% @zdS))))/\(((type_of% @zdT/\type_of% @zdU)/\(type_of% @zgP/\(type_of% @zgo/\type_of% @zgy)))/\((type_of% @zgw/\type_of% @zgE)/\(type_of% @zeH/\(type_of% @zfi/\type_of% @zdK)))))/\((((type_of% @zcI/\type_of% @zfk)/\(type_of% @zco/\type_of% @zeO))/\((type_of% @zdW/\type_of% @zge)/\(type_of% @zgf/\(type_of% @zdn/\type_of% @zf5))))/\(((type_of% @Bool.false_or/\type_of% @zeU)/\(type_of% @zeY/\(type_of% @zcO/\type_of% @zcs)))/\((type_of% @zcx/\type_of% @zfn)/\(type_of% @zdN/\(type_of% @zeo/\type_of% @zeb))))))))/\(((((((type_of% @zfg/\type_of% @zft)/\(type_of% @zfw/\type_of% @zfx))/\((type_of% @zfz/\type_of% @zfC)/\(type_of% @zfD/\(type_of% @Bool.true_and/\type_of% @zcC))))/\(((type_of% @zeW/\type_of% @zey)/\(type_of% @zez/\type_of% @zcq))/\((type_of% @zer/\type_of% @zci)/\(type_of% @zd1/\(type_of% @zcG/\type_of% @zej)))))/\((((type_of% @zdZ/\type_of% @zdJ)/\(type_of% @zen/\type_of% @zfo))/\((type_of% @zec/\type_of% @zfS)/\(type_of% @zfV/\(type_of% @zfW/\type_of% @zfX))))/\(((type_of% @zfY/\type_of% @false_implies)/\(type_of% @zdC/\(type_of% @yL/\type_of% @zcU)))/\((type_of% @zcB/\type_of% @zdO)/\(type_of% @zcf/\(type_of% @zbJ/\type_of% @zcz))))))/\(((((type_of% @Nat.succ_ne_self/\type_of% @zcW)/\(type_of% @zgh/\type_of% @zcv))/\((type_of% @zfr/\type_of% @zfj)/\(type_of% @zfp/\(type_of% @vC/\type_of% @zcS))))/\(((type_of% @zdX/\type_of% @zfq)/\(type_of% @zfQ/\(type_of% @zfR/\type_of% @zfT)))/\((type_of% @zfU/\type_of% @zct)/\(type_of% @zcl/\(type_of% @zcw/\type_of% @zc1)))))/\((((type_of% @zgC/\type_of% @zev)/\(type_of% @zf8/\type_of% @zga))/\((type_of% @zda/\type_of% @zce)/\(type_of% @zep/\(type_of% @zfu/\type_of% @zfB))))/\(((type_of% @zgF/\type_of% @zex)/\(type_of% @zf6/\(type_of% @zfL/\type_of% @zgD)))/\((type_of% @zcE/\type_of% @zbY)/\(type_of% @zcu/\(type_of% @zew/\type_of% @zf7)))))))/\((((((type_of% @zf9/\type_of% @zgb)/\(type_of% @or_false/\type_of% @zfF))/\((type_of% @ze1/\type_of% @ze4)/\(type_of% @ze5/\(type_of% @zdM/\type_of% @Int.toNat_zero))))/\(((type_of% @zeC/\type_of% @zeD)/\(type_of% @Bool.and_eq_true/\type_of% @zed))/\((type_of% @zef/\type_of% @zc0)/\(type_of% @zbZ/\(type_of% @zcD/\type_of% @zeR)))))/\((((type_of% @zeZ/\type_of% @ze0)/\(type_of% @zcT/\type_of% @zdQ))/\((type_of% @ze6/\type_of% @zeV)/\(type_of% @zeX/\(type_of% @zgi/\type_of% @zgj))))/\(((type_of% @zem/\type_of% @zgq)/\(type_of% @zdR/\(type_of% @zc2/\type_of% @zcX)))/\((type_of% @zee/\type_of% @zeu)/\(type_of% @zcN/\(type_of% @zdY/\type_of% @zfN))))))/\(((((type_of% @zeq/\type_of% @and_true)/\(type_of% @zgv/\type_of% @lN))/\((type_of% @zfO/\type_of% @zeA)/\(type_of% @zeB/\(type_of% @zcV/\type_of% @zet))))/\(((type_of% @ze2/\type_of% @zbX)/\(type_of% @not_true_eq_false/\(type_of% @zdI/\type_of% @lP)))/\((type_of% @zdP/\type_of% @lQ)/\(type_of% @zcY/\(type_of% @zb0/\type_of% @Int.cast_ofNat_Int)))))/\((((type_of% @lI/\type_of% @lJ)/\(type_of% @lK/\type_of% @zfP))/\((type_of% @zfl/\type_of% @Bool.true_or)/\(type_of% @lL/\(type_of% @lM/\type_of% @zcQ))))/\(((type_of% @zd3/\type_of% @zd4)/\(type_of% @zd5/\(type_of% @iL/\type_of% @zgA)))/\((type_of% @zeh/\type_of% @ze7)/\(type_of% @ze8/\(type_of% @zg4/\type_of% @zg5))))))))))/\type_of% @if_true.{1}/\type_of% @if_false.{1}/\type_of% @if_true.{0}/\type_of% @if_false.{0}/\type_of% @List.nodup_nil.{0}/\type_of% @φ.eq_1/\type_of% @χ.eq_1/\type_of% @θ.eq_1/\type_of% @ψ.eq_1/\type_of% @ω.eq_1/\type_of% @Γ.eq_1/\type_of% @Δ.eq_1/\type_of% @Θ.eq_1/\type_of% @Ξ.eq_1/\type_of% @Φ.eq_1/\type_of% @Ψ.eq_1/\type_of% @Ω.eq_1/\type_of% @xB.eq_1/\type_of% @vX.eq_1/\type_of% @kI.eq_1/\type_of% @zAA.eq_1/\type_of% @η.eq_1/\type_of% @ζ.eq_1:=⟨⟨⟨⟨⟨⟨⟨⟨⟨@zc6,@zcd⟩,⟨@zch,@zcc⟩⟩,⟨⟨@zc3,@zbG⟩,⟨@zcy,⟨@true_and,@zbH⟩⟩⟩⟩,⟨⟨⟨@zdi,@zc9⟩,⟨@zdy,@zdc⟩⟩,⟨⟨@zc4,@zdz⟩,⟨@zdA,⟨@zcH,@and_self⟩⟩⟩⟩⟩,⟨⟨⟨⟨@zdd,@zgr⟩,⟨@zdo,@zdB⟩⟩,⟨⟨@zdF,@Nat.zero_add⟩,⟨@zc5,⟨@zeE,@zeF⟩⟩⟩⟩,⟨⟨⟨@zeG,@zfZ⟩,⟨@zf0,⟨@zgt,@zgs⟩⟩⟩,⟨⟨@zdg,@ze9⟩,⟨@zfa,⟨@zfb,@zfc⟩⟩⟩⟩⟩⟩,⟨⟨⟨⟨⟨@zfd,@zfh⟩,⟨@zfm,@zfe⟩⟩,⟨⟨@zfs,@zfy⟩,⟨@zfH,⟨@zfv,@zfA⟩⟩⟩⟩,⟨⟨⟨@zfG,@zdL⟩,⟨@zc8,⟨@zgd,@zff⟩⟩⟩,⟨⟨@Nat.le_refl,@zcF⟩,⟨@Bool.false_eq_true,⟨@zcP,@zde⟩⟩⟩⟩⟩,⟨⟨⟨⟨@zf4,@zgc⟩,⟨@zf2,@zO⟩⟩,⟨⟨@zgl,@zf1⟩,⟨@zcR,⟨@zcA,@zg2⟩⟩⟩⟩,⟨⟨⟨@zel,@zek⟩,⟨@decide_true,⟨@zfI,@zgn⟩⟩⟩,⟨⟨@zck,@zc7⟩,⟨@zbI,⟨@zdw,@zdx⟩⟩⟩⟩⟩⟩⟩,⟨⟨⟨⟨⟨⟨@zcL,@zd7⟩,⟨@Int.toNat_natCast,@Bool.and_true⟩⟩,⟨⟨@zcp,@zgm⟩,⟨@Int.natCast_nonneg,⟨@zeK,@zeL⟩⟩⟩⟩,⟨⟨⟨@zeM,@zeN⟩,⟨@Bool.or_true,@zea⟩⟩,⟨⟨@decide_false,@zdk⟩,⟨@zgp,⟨@zgu,@zd6⟩⟩⟩⟩⟩,⟨⟨⟨⟨@zg3,@zfJ⟩,⟨@zd0,@zei⟩⟩,⟨⟨@zf3,@zfK⟩,⟨@Nat.add_zero,⟨@not_false_eq_true,@zeI⟩⟩⟩⟩,⟨⟨⟨@zeJ,@zeP⟩,⟨@zeT,⟨@zfE,@zeQ⟩⟩⟩,⟨⟨@zcM,@zdl⟩,⟨@zdG,⟨@zdf,@zdj⟩⟩⟩⟩⟩⟩,⟨⟨⟨⟨⟨@zdm,@zgx⟩,⟨@zgB,@zgG⟩⟩,⟨⟨@zgH,@zcj⟩,⟨@zd2,⟨@zgg,@zdS⟩⟩⟩⟩,⟨⟨⟨@zdT,@zdU⟩,⟨@zgP,⟨@zgo,@zgy⟩⟩⟩,⟨⟨@zgw,@zgE⟩,⟨@zeH,⟨@zfi,@zdK⟩⟩⟩⟩⟩,⟨⟨⟨⟨@zcI,@zfk⟩,⟨@zco,@zeO⟩⟩,⟨⟨@zdW,@zge⟩,⟨@zgf,⟨@zdn,@zf5⟩⟩⟩⟩,⟨⟨⟨@Bool.false_or,@zeU⟩,⟨@zeY,⟨@zcO,@zcs⟩⟩⟩,⟨⟨@zcx,@zfn⟩,⟨@zdN,⟨@zeo,@zeb⟩⟩⟩⟩⟩⟩⟩⟩,⟨⟨⟨⟨⟨⟨⟨@zfg,@zft⟩,⟨@zfw,@zfx⟩⟩,⟨⟨@zfz,@zfC⟩,⟨@zfD,⟨@Bool.true_and,@zcC⟩⟩⟩⟩,⟨⟨⟨@zeW,@zey⟩,⟨@zez,@zcq⟩⟩,⟨⟨@zer,@zci⟩,⟨@zd1,⟨@zcG,@zej⟩⟩⟩⟩⟩,⟨⟨⟨⟨@zdZ,@zdJ⟩,⟨@zen,@zfo⟩⟩,⟨⟨@zec,@zfS⟩,⟨@zfV,⟨@zfW,@zfX⟩⟩⟩⟩,⟨⟨⟨@zfY,@false_implies⟩,⟨@zdC,⟨@yL,@zcU⟩⟩⟩,⟨⟨@zcB,@zdO⟩,⟨@zcf,⟨@zbJ,@zcz⟩⟩⟩⟩⟩⟩,⟨⟨⟨⟨⟨@Nat.succ_ne_self,@zcW⟩,⟨@zgh,@zcv⟩⟩,⟨⟨@zfr,@zfj⟩,⟨@zfp,⟨@vC,@zcS⟩⟩⟩⟩,⟨⟨⟨@zdX,@zfq⟩,⟨@zfQ,⟨@zfR,@zfT⟩⟩⟩,⟨⟨@zfU,@zct⟩,⟨@zcl,⟨@zcw,@zc1⟩⟩⟩⟩⟩,⟨⟨⟨⟨@zgC,@zev⟩,⟨@zf8,@zga⟩⟩,⟨⟨@zda,@zce⟩,⟨@zep,⟨@zfu,@zfB⟩⟩⟩⟩,⟨⟨⟨@zgF,@zex⟩,⟨@zf6,⟨@zfL,@zgD⟩⟩⟩,⟨⟨@zcE,@zbY⟩,⟨@zcu,⟨@zew,@zf7⟩⟩⟩⟩⟩⟩⟩,⟨⟨⟨⟨⟨⟨@zf9,@zgb⟩,⟨@or_false,@zfF⟩⟩,⟨⟨@ze1,@ze4⟩,⟨@ze5,⟨@zdM,@Int.toNat_zero⟩⟩⟩⟩,⟨⟨⟨@zeC,@zeD⟩,⟨@Bool.and_eq_true,@zed⟩⟩,⟨⟨@zef,@zc0⟩,⟨@zbZ,⟨@zcD,@zeR⟩⟩⟩⟩⟩,⟨⟨⟨⟨@zeZ,@ze0⟩,⟨@zcT,@zdQ⟩⟩,⟨⟨@ze6,@zeV⟩,⟨@zeX,⟨@zgi,@zgj⟩⟩⟩⟩,⟨⟨⟨@zem,@zgq⟩,⟨@zdR,⟨@zc2,@zcX⟩⟩⟩,⟨⟨@zee,@zeu⟩,⟨@zcN,⟨@zdY,@zfN⟩⟩⟩⟩⟩⟩,⟨⟨⟨⟨⟨@zeq,@and_true⟩,⟨@zgv,@lN⟩⟩,⟨⟨@zfO,@zeA⟩,⟨@zeB,⟨@zcV,@zet⟩⟩⟩⟩,⟨⟨⟨@ze2,@zbX⟩,⟨@not_true_eq_false,⟨@zdI,@lP⟩⟩⟩,⟨⟨@zdP,@lQ⟩,⟨@zcY,⟨@zb0,@Int.cast_ofNat_Int⟩⟩⟩⟩⟩,⟨⟨⟨⟨@lI,@lJ⟩,⟨@lK,@zfP⟩⟩,⟨⟨@zfl,@Bool.true_or⟩,⟨@lL,⟨@lM,@zcQ⟩⟩⟩⟩,⟨⟨⟨@zd3,@zd4⟩,⟨@zd5,⟨@iL,@zgA⟩⟩⟩,⟨⟨@zeh,@ze7⟩,⟨@ze8,⟨@zg4,@zg5⟩⟩⟩⟩⟩⟩⟩⟩⟩,@if_true,@if_false,@if_true,@if_false,@List.nodup_nil,@φ.eq_1,@χ.eq_1,@θ.eq_1,@ψ.eq_1,@ω.eq_1,@Γ.eq_1,@Δ.eq_1,@Θ.eq_1,@Ξ.eq_1,@Φ.eq_1,@Ψ.eq_1,@Ω.eq_1,@xB.eq_1,@vX.eq_1,@kI.eq_1,@zAA.eq_1,@η.eq_1,@ζ.eq_1⟩
end Go.Abs
namespace Go.Abs
section
variable {P : Program}
theorem iS {n:Nat} {t:TypeId} {r:List C} {k:IntKind} (hu:P.underlying t=some (.int k)) (h:yS P n t r): ∃m:Int,r=[.int k m]/\(Lit.int k m).wf=true:=by
 cases n with
 |zero=>exact h.elim
 |succ n=>simp only[yS,hu] at h;exact h
theorem pD {n:Nat} {t:TypeId} {r:List C} (hu:P.underlying t=some .string) (h:yS P n t r): ∃s:List UInt8,r=[.str s]/\s.length<=9223372036854775807:=by
 cases n with
 |zero=>exact h.elim
 |succ n=>simp only[yS,hu] at h;exact h
theorem lV {n:Nat} {t e:TypeId} {r:List C} (hu:P.underlying t=some (.slice e)) (h:yS P n t r): ∃m rows,n=m+1/\r=[zC (P.cellsOf e) rows]/\rows.length<=9223372036854775807/\ ∀x∈rows,yS P m e x:=by
 cases n with
 |zero=>exact h.elim
 |succ n=>simp only[yS,hu] at h;obtain⟨rows,h1,h2,h3⟩:=h;exact⟨n,rows,rfl,h1,h2,h3⟩
theorem iT {n:Nat} {t:TypeId} {fs:Array Field} {r:List C} (hu:P.underlying t=some (.struct fs)) (h:yS P n t r): ∃m rs,n=m+1/\r=rs.flatten/\lR (yS P m) (fs.toList.map (·.type)) rs:=by
 cases n with
 |zero=>exact h.elim
 |succ n=>simp only[yS,hu] at h;obtain⟨rs,h1,h2⟩:=h;exact⟨n,rs,rfl,h1,h2⟩
variable {tI tB tS tT tLT tR tLR tC tLC tO : TypeId}
end
section
variable {P : Program}
end
end Go.Abs
namespace Go.Proofs
open Go.Shelf Go.RowKit
def Tryz.laysIdxF_ren:Go.Shelf.Ren:=
 {
  f:=fun x=>
   match x with
   |15=>97
   |20=>131
   |n=>n,
  t:=fun x=>
   match x with
   |9=>9
   |23=>147
   |3=>3
   |4=>4
   |0=>0
   |21=>21
   |n=>n,
  g:=fun n=>n}
theorem Tryz.laysIdxF:LaysGw.n15 Tryz.prog Tryz.laysIdxF_ren:=
 {mixed:=by kernel_rfl,f15:=ZQ Tryz.func97 (congrArg some (ZI (BodyGw.n15 Tryz.laysIdxF_ren))),
  f20:=ZQ Tryz.func131 (congrArg some (ZI (BodyGw.n20 Tryz.laysIdxF_ren))),t0:=Tryz.underlying0,
  a0:=Tryz.isAgg0,z0:=Tryz.sizeOf0,v0:=Tryz.zeroValue0,i0:=by kernel_rfl,
  t3:=Tryz.underlying3,a3:=Tryz.isAgg3,z3:=Tryz.sizeOf3,v3:=Tryz.zeroValue3,
  i3:=by kernel_rfl,t4:=Tryz.underlying4,a4:=Tryz.isAgg4,
  z4:=Tryz.sizeOf4,v4:=Tryz.zeroValue4,i4:=by kernel_rfl,
  t9:=Tryz.underlying9,a9:=Tryz.isAgg9,z9:=Tryz.sizeOf9,v9:=Tryz.zeroValue9,
  i9:=by kernel_rfl,t21:=Tryz.underlying21,a21:=Tryz.isAgg21,
  z21:=Tryz.sizeOf21,v21:=Tryz.zeroValue21,i21:=by kernel_rfl,
  t23:=Tryz.underlying147,a23:=Tryz.isAgg147,z23:=Tryz.sizeOf147,v23:=Tryz.zeroValue147,
  i23:=by kernel_rfl}
end Go.Proofs
namespace Go.Wire
open Go.Lib
abbrev Txt:=List UInt8
end Go.Wire
namespace Go.Wd
open Go.Lib Go.Wire
def cutC (c:UInt8):Txt->List Txt
 |[]=>[[]]
 |x::t=>if x=c then[]::cutC c t else match cutC c t with
  |[]=>[[x]]
  |w::r=>(x::w)::r
theorem zre (c:UInt8): ∀t,cutC c t≠[]
 |[]=>by simp[cutC]
 |x::t=>by
  unfold cutC;split
  ·simp
  ·cases cutC c t<;>simp
theorem cutC_word {c:UInt8}: ∀{w:Txt},c ∉ w->cutC c w=[w]
 |[],_=>rfl
 |x::t,h=>by
  have h1:x≠c:=fun e=>h (by simp[e])
  have h2:c ∉ t:=fun e=>h (by simp[e])
  rw[cutC,if_neg h1,cutC_word h2]
theorem cutC_app {c:UInt8}: ∀{w:Txt} (t:Txt),c ∉ w->cutC c (w++c::t)=w::cutC c t
 |[],t,_=>by rw[Ya,cutC,if_pos rfl]
 |x::w,t,h=>by
  have h1:x≠c:=fun e=>h (by simp[e])
  have h2:c ∉ w:=fun e=>h (by simp[e])
  rw[ZS,cutC,if_neg h1,cutC_app t h2]
def oI (c:UInt8):List Txt->Txt
 |[]=>[]
 |[w]=>w
 |w::v::r=>w++c::oI c (v::r)
theorem zqd {c:UInt8}: ∀{l:List Txt},l≠[]->(∀w∈l,c ∉ w)->cutC c (oI c l)=l
 |[],h,_=>absurd rfl h
 |[w],_,h=>cutC_word (h w (by simp))
 |w::v::r,_,h=>by
  rw[oI,cutC_app _ (h w (by simp)),zqd (by simp) (fun x hx=>h x (Zz _ hx))]
def cleanL (L:List (List Txt)):Prop:= ∀ws∈L,ws≠[]/\ ∀w∈ws,(32:UInt8) ∉ w/\(10:UInt8) ∉ w
def dec (n:Int):Txt:=decDigits n.toNat
structure Ten where
 k:Int
 n:Int
 u:Int
 deriving DecidableEq
structure Bil where
 dr:Int
 de:Int
 pa:Int
 su:Int
 cu:Int
 te:Ten
 da:Int
 ci:Int
 py:Int
 ne:Int
 ra:Int
 fl:Int
 pt:Int
 deriving DecidableEq
structure Nms where
 cu:List Txt
 ci:List Txt
 fi:List Txt
def nm (l:List Txt) (i:Int):Txt:=l.getD i.toNat []
def bit (k fl:Int):Bool:=decide (fl/k % 2=1)
structure Cal where
 date:Int->Int×Int×Int
 day:Int->Int->Int->Int
def zg7 (C:Cal) (d:Int):Txt:=oI 45 [dec (C.date d).1,dec (C.date d).2.1,dec (C.date d).2.2]
def zlD (C:Cal) (t:Ten):List Txt:=
 if t.k=0 then[[112,97,121],[97,116],[115,105,103,104,116]]
 else if t.k=3 then[[112,97,121],[111,110],zg7 C t.n]
 else if t.k=4 then[[112,97,121],[97,116],[117,115,97,110,99,101]]
 else[[112,97,121],dec t.n,if t.u=1 then[109,111,110,116,104,115] else[100,97,121,115],[97,102,116,101,114],if t.k=2 then[100,97,116,101] else[115,105,103,104,116]]
def zlE (pt part:Int):List Int:=((List.range pt.toNat).map Int.ofNat).filter fun i=>decide (i≠part)
def orW:List Txt->List Txt
 |[]=>[]
 |[w]=>[w]
 |w::v::r=>w::[111,114]::orW (v::r)
def zlF (pt part:Int):List Txt:=orW ((zlE pt part).map fun i=>dec (i+1))
def rows (C:Cal) (N:Nms) (b:Bil) (p:Int):List (List Txt):=
 [[if bit 1 b.fl=true then[98,105,108,108] else[112,97,112,101,114],dec (p+1),[111,102],dec b.pt],
  [[100,114,97,119,110],[105,110],nm N.ci b.ci,[111,110],zg7 C b.da],
  zlD C b.te,
  if b.pa= -1 then[[116,111],[98,101,97,114,101,114]] else if bit 4 b.fl=true then[[116,111],nm N.fi b.pa,[110,111,116],[116,111],[111,114,100,101,114]] else[[116,111],nm N.fi b.pa,[111,114],[111,114,100,101,114]],
  if b.ra=0 then[dec b.su,nm N.cu b.cu] else[dec b.su,nm N.cu b.cu,[119,105,116,104],[105,110,116,101,114,101,115,116],[97,116],dec b.ra,[112,101,114],[109,105,108,108,101]],
  [[116,111],[98,101],[112,97,105,100],[98,121],nm N.fi b.de,[105,110],nm N.ci b.py]]
 ++((if b.pt>1 then[[117,110,108,101,115,115]::[112,97,114,116]::(zlF b.pt p++[[119,97,115],[112,97,105,100]])] else[])
 ++((if b.ne= -1 then[] else[[[105,110],[110,101,101,100],[97,115,107],nm N.fi b.ne]])
 ++((if bit 2 b.fl=true then[[[119,105,116,104,111,117,116],[112,114,111,116,101,115,116]]] else[])++[[[115,105,103,110,101,100],nm N.fi b.dr]])))
def wd (l:List Txt) (i:Nat):Txt:=l.getD i []
end Go.Wd
namespace Go.Ex
open Go.Lib Go.Wd Go.Wire
structure Fld where
 name:Txt
 words:List (List Txt)
structure Dcm where
 kind:Txt
 flds:List Fld
structure Pln where
 kind:Txt
 names:List Txt
 texts:List Txt
structure Dmd where
 op:Int
 doc:Txt
 fld:Txt
 oth:Txt
 sec:Txt
 txt:Txt
 lo:Int
 hi:Int
deriving DecidableEq
structure Plc where
 doc:Int
 fld:Int
deriving DecidableEq
structure Flw where
 dem:List Int
 pls:List Plc
 sure:Bool
theorem big {n:Nat} (h:n<=1000000):n<=9223372036854775807:=by omega
def letB (c:UInt8):Bool:=decide (97<=c.toNat/\c.toNat<=122)||decide (65<=c.toNat/\c.toNat<=90)
def digB (c:UInt8):Bool:=decide (48<=c.toNat/\c.toNat<=57)
def uU (c:UInt8):Bool:=letB c||(digB c||decide (c.toNat=95))
def nV (c:UInt8):Bool:=decide (32<=c.toNat/\c.toNat<=126)
def spanN (p:UInt8->Bool):Txt->Nat
 |[]=>0
 |c::t=>if p c=true then spanN p t+1 else 0
theorem zlG {p:UInt8->Bool} {s:Txt} {i:Nat} (h:i<s.length):spanN p (s.drop i)=if p s[i]=true then spanN p (s.drop (i+1))+1 else 0:=by
 rw[ZE h,spanN]
theorem cW {p:UInt8->Bool}: ∀{s:Txt},spanN p s=s.length ↔ s.all p=true
 |[]=>by simp[spanN]
 |c::t=>by
  rw[spanN,Yz,Zp,<-cW (s:=t)];split
  ·rename_i h;simp[h]
  ·rename_i h;simp[h]
def nameP (s:Txt):Bool:=decide (s≠[])&&(letB (s.getD 0 0)&&(decide (s.length<=20)&&decide (spanN uU s=s.length)))
def vL (c:UInt8):Bool:=decide (33<=c.toNat/\c.toNat<=126)
def vM (s:Txt):Bool:=decide (s≠[])&&(decide (s.length<=20)&&s.all vL)
def rZ (l:List Txt):Nat->Bool
 |0=>false
 |n+1=>rZ l n||decide (l.getD n []∈l.take n)
def wI (l:List Txt):Int:=if l.length>4 then 6 else if l=[] then 4 else if l.all vM=true then(if rZ l l.length=true then 5 else 0) else 2
def xL (f:Nat->Int):Nat->Nat->Int
 |0,_=>0
 |n+1,i=>if f i=0 then xL f n (i+1) else f i
def yT:Fld:=⟨[],[]⟩
def wN (l:List Fld) (i:Nat):Int:=
 let f:=l.getD i yT
 if nameP f.name=true then
  if (l.take i).any (fun g=>decide (g.name=f.name))=true then 5
  else if f.words.length>8 then 6
  else xL (fun k=>wI (f.words.getD k [])) f.words.length 0
 else 2
def docE (d:Dcm):Int:=if nameP d.kind=true then(if d.flds.length>12 then 6 else xL (wN d.flds) d.flds.length 0) else 2
def yQ (f:Fld):Nat:=(f.words.map List.length).foldl (· * ·) 1
def vD:List Fld->Nat->Int×Int
 |[],n=>((n:Int),0)
 |f::l,n=>if n*yQ f>4096 then(0,6) else vD l (n*yQ f)
def cntD (d:Dcm):Int×Int:=if docE d=0 then vD d.flds 1 else(0,docE d)
theorem zpN: ∀(l:List Nat) (a:Nat),l.foldl (· * ·) a=a*l.foldl (· * ·) 1
 |[],a=>by simp
 |x::l,a=>by
  rw[YQ,zpN l (a*x),YQ,Xs,zpN l x,XD]
theorem zrf (n:Txt) (w:List Txt) (l:List (List Txt)):yQ ⟨n,w::l⟩=w.length*yQ ⟨n,l⟩:=by
 unfold yQ;rw[Zm,YQ,Xs,zpN]
end Go.Ex
namespace Go.Abs
open Go.Proofs Go.RowKit Go.Lib Go.Wd Go.Wire Go.Ex
def zJ (l:List Txt):List (List C):=l.map fun s=>[.str s]
@[simp] theorem yB (l:List Txt):(zJ l).length=l.length:=by simp[zJ]
theorem uI {l:List Txt} {i:Nat} (h:i<l.length):(zJ l).getD i []=[.str l[i]]:=by simp[zJ,h]
@[simp] theorem wD (l:List Txt):C.normRows (zJ l)=zJ l:=zP (fun _=>rfl) l
theorem u8r (c:UInt8):(0:Int)<=(c.toNat:Int)/\(c.toNat:Int)<=255:=by
 have:=c.toNat_lt;omega
theorem wJ {S:V->Prop} {x y:Bool} (h:S (.bool x)) (e:y=true ↔ x=true):S (.k (.c (.bool y))):=by
 rw[Yp.2 e];exact h
theorem zg8 (c:UInt8):Spec Tryz.prog 125 [.int .u8 (c.toNat:Int)] (fun v=>v=.bool (letB c)):=by
 refine Spec.of_awlS hf125 okf125 (by simp) fun S hS=>?_
 unfold letB at hS;generalize c.toNat=a at hS;simp only[Qs,Za,Ψ125]
 repeat' (apply And.intro<;>intro _)
 all_goals (refine wJ hS ?_;simp only[Yi,decide_eq_true_eq,Z1,true_iff,false_iff];omega)
theorem zg9 (c:UInt8):Spec Tryz.prog 160 [.int .u8 (c.toNat:Int)] (fun v=>v=.bool (digB c)):=by
 refine Spec.of_awlS hf160 okf160 (by simp) fun S hS=>?_
 unfold digB at hS;generalize c.toNat=a at hS;simp only[Qs,Za,Ψ160]
 repeat' (apply And.intro<;>intro _)
 all_goals (refine wJ hS ?_;simp only[Yi,decide_eq_true_eq,Z1,true_iff,false_iff];omega)
theorem zlH (c:UInt8):Spec Tryz.prog 127 [.int .u8 (c.toNat:Int)] (fun v=>v=.bool (uU c)):=by
 refine Spec.of_awlS hf127 okf127 (by simp) fun S hS=>?_
 have g1:=zg8 c;have g2:=zg9 c;unfold uU at hS;have hb:((c.toNat:Int)==95)=decide (c.toNat=95):=by
  rw[Yp];simp only[beq_iff_eq,decide_eq_true_eq];omega
 generalize letB c=x at g1 hS;generalize digB c=y at g2 hS;cases x with
 |true=>
  simp only[Qs,Za,Ψ127];refine zF g1 ?_ (ha:=by rfl);simp only[Qs,Za];exact hS
 |false=>
  simp only[Qs,Za,Ψ127];refine zF g1 ?_ (ha:=by rfl);simp only[Qs,Za];refine zF g2 ?_ (ha:=by rfl);cases y with
  |true=>
   simp only[Qs,Za];exact hS
  |false=>
   simp only[hb,Qs,Za];exact hS
theorem cX {g:Nat} {p:UInt8->Bool} (hg: ∀c:UInt8,Spec Tryz.prog g [.int .u8 (c.toNat:Int)] (fun v=>v=.bool (p c))) (s:Txt) (hl:s.length<=9223372036854775807):Spec Tryz.prog 126 [.str s,.k (.c (.fn g []))] (fun v=>v=.int .i64 (spanN p s:Nat)):=by
 refine Spec.of_awlS hf126 okf126 (by simp) fun S hS=>?_
 simp only[Qs,Zc,Ψ126];rw[uu f126l9.eq_1];refine yA (fun i:Nat=>[(0,.str s),(1,.k (.c (.fn g []))),(5,.int .i64 i)]) (fun _=>[]) (fun i=>i<=s.length/\spanN p s=i+spanN p (s.drop i)) (fun i=>s.length-i) 0 rfl rfl ⟨ZA _,by simp⟩ ?_;rintro i ⟨hi,hD⟩;by_cases hlt:i<s.length
 ·have c1:(i:Int)<s.length:=by omega
  have c4:IntKind.i64.wrap ((i:Int)+1)=(i:Int)+1:=wrap_in (by omega) (by omega);have hgt:s.getD i 0=s[i]:=by rw[Zh,Zg hlt];rfl
  have gi:=hg s[i];rw[zlG hlt] at hD;simp only[c1,hgt,Qs,iM,Za,Ψ126];refine pC gi ?_ (ha:=by rfl);cases hp:p s[i] with
  |true=>
   rw[if_pos hp] at hD;simp only[c4,Qs,Za,Ψ126];exact Next.intro (i+1) rfl rfl ⟨by omega,by omega⟩ (by omega)
  |false=>
   rw[if_neg (by rw[hp];simp)] at hD;rw[hD] at hS;simp only[Qs,Za,Ψ126];exact hS
 ·have c1: ¬(i:Int)<s.length:=by omega
  rw[ZC (by omega)] at hD;rw[hD] at hS;simp only[c1,Qs,iM,Za,Ψ126];exact hS
theorem c92 (s:Txt) (hl:s.length<=9223372036854775807):Spec Tryz.prog 92 [.str s] (fun v=>v=.bool (nameP s)):=by
 refine Spec.of_awlS hf92 okf92 (by simp) fun S hS=>?_
 have g2:=cX zlH s hl;unfold nameP at hS;by_cases h0:s=[]
 ·rw[decide_eq_false (fun q=>q h0)] at hS
  have e2:(s !=[])=false:=by simp[h0]
  simp only[e2,Qs,Za,Yl,Ψ92];exact⟨fun _=>hS,fun q=>absurd h0 q⟩
 ·have hlen:0<s.length:=Yh.2 h0
  have q0:(0:Int)<s.length:=by omega
  rw[decide_eq_true h0,ZJ] at hS;generalize hc:s.getD 0 0=c at hS;have g1:=zg8 c;generalize letB c=x at g1 hS;have h20:((s.length:Int)<=20)=(s.length<=20):=by rw[eq_iff_iff];omega
  have hq:(((spanN uU s:Nat):Int)=s.length)=(spanN uU s=s.length):=by rw[eq_iff_iff];omega
  simp only[q0,hc,XT,Qs,Za,Yl,Ψ92];refine⟨fun q=>absurd q h0,fun _=>?_⟩;refine zF g1 ?_ (ha:=by rfl);cases x with
  |false=>
   simp only[Qs,Za];exact hS
  |true=>
   rw[ZJ] at hS;simp only[Qs,Za];refine⟨fun q=>?_,fun q=>?_⟩
   ·refine zF g2 ?_ (ha:=by rfl)
    rw[decide_eq_true (h20▸q),ZJ] at hS;simp only[Qs,Za];refine wJ hS ?_;rw[beq_iff_eq,decide_eq_true_eq,hq]
   ·rw[decide_eq_false (fun z=>q (h20▸z))] at hS
    exact hS
end Go.Abs
namespace Go.Abs
open Go.Proofs Go.RowKit
theorem Spec.of_awlP {P:Program} {f:FuncId} {n:Nat} {c:AQ} {rs:List RX} {args:List V} {X:V} (hc:zH P f=some ⟨n,c.erase,rs⟩) (hok:c.ok=true) (hlen:args.length<=n)
  (h: ∀S:V->Prop,(∀r,r.fz.nrm=X->S r)->awl P c (endK rs S) (initT 0 args) []):Spec P f args (fun r=>r=X):=
 (Spec.of_awl hc hok hlen (h (fun r=>r.fz.nrm=X) fun _ h=>h)).plain.mono (by rintro r' ⟨r,h,rfl⟩;exact h)
theorem rH {P:Program} {f:FuncId} (h:(match P.funcs[f]? with|some fn=>fn.body.isSome&& !(fn.name== "runtime.NumGoroutine")|none=>false)=true):sB P f:=by
 unfold sB;cases hf:P.funcs[f]? with
 |none=>rw[hf] at h;simp at h
 |some fn=>rw[hf] at h;simp only[Zp,Xg] at h;exact⟨fn,rfl,h.1,h.2⟩
theorem xM {w w':World} (h:Below w.heap.size w w'):xG w w':=⟨h.os,h.tape,h.output,h.size,h.block⟩
theorem iU {w w':World} (h:xG w w'):Below w.heap.size w w':=⟨h.os,h.tape,h.output,h.size,h.block⟩
def C.sc:C->Bool
 | .int _ _=>true
 | .bool _=>true
 | .str _=>true
 |_=>false
def wE:C->Value
 | .int k n=> .int k n
 | .bool b=> .bool b
 | .str s=> .string ⟨s.toArray⟩
 |_=> .bool false
theorem cY {w:World} {Z:Bk->Prop} {c:C} {v:Value} (hc:c.sc=true) (h:PRep w Z c v):v=wE c:=by
 cases h<;>first|rfl|cases hc
theorem zha {w:World} {Z:Bk->Prop} {c:C} (hc:c.sc=true):PRep w Z c (wE c):=by
 cases c<;>first|exact .int _ _|exact .bool _|exact .str _|cases hc
theorem zlI {c:C} (hc:c.sc=true):(wE c).oneCell'=true:=(zha (w:=default) (Z:=fun _=>False) hc).oneCell
theorem zhb {α:Type} {sz:Nat} (h0:0<sz): ∀(rows:List (List α)) (k:Nat) (c:α),(∀r,r∈rows->r.length=sz)->rows.flatten[k]?=some c-> ∃i j r,rows[i]?=some r/\r[j]?=some c/\k=i*sz+j
 |[],k,c,_,h=>by simp at h
 |r::rows,k,c,hl,h=>by
  have hr:=hl r Yr;rw[YL] at h;by_cases hk:k<sz
  ·rw[ZD (by omega)] at h
   exact⟨0,k,r,rfl,h,by omega⟩
  ·rw[ZF (by omega)] at h
   obtain⟨i,j,r',h1,h2,h3⟩:=zhb h0 rows (k-r.length) c (fun r' hr'=>hl r' (Zz _ hr')) h;exact⟨i+1,j,r',h1,h2,by rw[Yx];omega⟩
theorem zhc {α:Type} {sz:Nat}: ∀(rows:List (List α)) (i j:Nat) (r:List α) (c:α),(∀r,r∈rows->r.length=sz)->rows[i]?=some r->r[j]?=some c->rows.flatten[i*sz+j]?=some c
 |[],i,j,r,c,_,h,_=>by simp at h
 |r0::rows,0,j,r,c,hl,h,hc=>by
  cases h;have hj:=(Zr.1 hc).1;rw[YL,Nat.zero_mul,ZV,ZD hj];exact hc
 |r0::rows,i+1,j,r,c,hl,h,hc=>by
  have hr:=hl r0 Yr;rw[YL,Yx,ZF (by omega),show i*sz+1*sz+j-r0.length=i*sz+j by omega];exact zhc rows i j r c (fun r' hr'=>hl r' (Zz _ hr')) h hc
theorem zhd {α:Type} {sz:Nat}: ∀(rows:List (List α)),(∀r,r∈rows->r.length=sz)->rows.flatten.length=rows.length*sz
 |[],_=>by simp
 |r0::rows,hl=>by
  rw[YL,Zv,zhd rows fun r' hr'=>hl r' (Zz _ hr'),hl r0 Yr,Zo,Yx];omega
def qA (rows:List (List C)):List Value:=rows.flatten.map wE
structure Plain (sz:Nat) (rows:List (List C)):Prop where
 pos:0<sz
 len: ∀r,r∈rows->r.length=sz
 sc: ∀r,r∈rows-> ∀c,c∈r->c.sc=true
theorem Plain.clen {sz:Nat} {rows:List (List C)} (h:Plain sz rows):(qA rows).length=rows.length*sz:=by
 rw[qA,Zi,zhd rows h.len]
theorem Plain.one {sz:Nat} {rows:List (List C)} (h:Plain sz rows): ∀u∈qA rows,u.oneCell'=true:=by
 intro u hu;obtain⟨c,hc,rfl⟩:=ZB.1 hu;obtain⟨r,hr,hcr⟩:=List.mem_flatten.1 hc;exact zlI (h.sc r hr c hcr)
theorem Plain.at {sz:Nat} {rows:List (List C)} (h:Plain sz rows) {i j:Nat} {r:List C} {c:C} (hr:rows[i]?=some r) (hc:r[j]?=some c):(qA rows)[i*sz+j]?=some (wE c)/\c.sc=true:=by
 refine⟨?_,h.sc r (ZL hr) c (ZL hc)⟩;rw[qA,Zw,zhc rows i j r c h.len hr hc];rfl
theorem Plain.slice {sz:Nat} {rows:List (List C)} (h:Plain sz rows) {w:World} {Z:Bk->Prop} {v:Value} (hv:PRep w Z (zC sz rows) v):
  ∃p cap,v=.slice p rows.length cap/\(0<rows.length-> ∃b o,p=some ⟨b,o,none⟩/\ ∀j u,(qA rows)[j]?=some u->w.cell? ⟨b,o+j,none⟩=some u)/\(0<rows.length->rows.length<=cap):=by
 unfold zC at hv;by_cases h0:rows=[]
 ·subst h0
  have h':PRep w Z (.list 0 none []) v:=hv;generalize hc:C.list 0 none []=c at h';cases h' with
  |nil=>exact⟨none,0,rfl,fun hk=>absurd hk (by simp),fun hk=>absurd hk (by simp)⟩
  |emp _ _ a=>exact⟨some a,0,rfl,fun hk=>absurd hk (by simp),fun hk=>absurd hk (by simp)⟩
  |list b o cap sz nl rws val=>
   injection hc with _ _ hr
   subst hr;exact⟨some ⟨b,o,none⟩,cap,rfl,fun hk=>absurd hk (by simp),fun hk=>absurd hk (by simp)⟩
  |_=>cases hc
 ·have e:(if rows.isEmpty=true then 0 else sz)=sz:=by cases rows<;>simp_all
  rw[e] at hv;generalize hc:C.list sz none rows=c at hv;cases hv with
  |nil=>injection hc with _ _ hr;exact absurd hr h0
  |emp=>injection hc with _ _ hr;exact absurd hr h0
  |list b o cap sz nl rws val h1 h2 h3 h4 h5 h6 h7=>
   injection hc with hs _ hr
   subst hs hr;refine⟨some ⟨b,o,none⟩,cap,rfl,fun _=>⟨b,o,rfl,fun k u hu=>?_⟩,fun _=>h2⟩;rw[qA,Zw] at hu;obtain⟨c,hc,rfl⟩:=Zd.1 hu;obtain⟨i,j,r,g1,g2,rfl⟩:=zhb h.pos rows k c h.len hc;rw[h6 i j r c g1 g2,cY (h.sc r (ZL g1) c (ZL g2)) (h7 i j r c g1 g2)]
  |_=>cases hc
structure Row (w w':World) (e sz:Nat) (rows:List (List C)) (g:Nat) (cap:Nat):Prop where
 fresh:w.heap.size<=g
 ex: ∃cur,w'.heap[g]?=some (.cells cur e (0,0))/\cur.size=cap*sz/\ ∀(i j:Nat) r c,rows[i]?=some r->r[j]?=some c-> ∃v,cur[i*sz+j]?=some v/\ ∀Z,PRep w' Z c v
 pos:0<sz
 le:rows.length<=cap
 max:cap<=maxLen
 len: ∀r,r∈rows->r.length=sz
theorem Row.orep {w w':World} {e sz:Nat} {rows:List (List C)} {g cap:Nat} (h:Row w w' e sz rows g cap) {Z:Bk->Prop} {κ:Kap} {o:Nat->Option O} {τ:Nat} (hκ:κ τ=some g):xA w' Z κ o τ (.arr e sz none rows):=by
 obtain⟨cur,h1,h2,h3⟩:=h.ex;exact .inr ⟨g,cur,cap,hκ,h1,h.pos,h2,h.le,h.max,by simp,h.len,fun i j r c hr hc=>by obtain⟨v,hv,hp⟩:=h3 i j r c hr hc;exact⟨v,hv,hp _⟩⟩
theorem tb1 {n τ:Nat} {a x:O} (h:zS n [a] τ=some x):τ=n/\x=a:=by
 unfold zS at h;split at h
 ·rename_i hle
  obtain⟨k,rfl⟩: ∃k,τ=n+k:=⟨τ-n,by omega⟩;rw[XY] at h
  match k,h with
  |0,h=>simp at h;exact⟨rfl,h.symm⟩
  |k+1,h=>simp at h
 ·cases h
theorem zqe {n τ:Nat} {a:O} (h:zS n [a] τ≠none):τ=n:=by
 cases e:zS n [a] τ with
 |none=>exact absurd e h
 |some x=>exact(tb1 e).1
abbrev zqf (w w':World) (e sz:Nat) (rows:List (List C)) (v:Value):Prop:=(v=.slice none 0 0/\rows=[])\/ ∃g cap,v=.slice (some ⟨g,0,none⟩) rows.length cap/\Row w w' e sz rows g cap
theorem zpO {w w':World} {Z:Bk->Prop} {e sz:Nat} {rows:List (List C)} {v:Value} (hG:yI (base w)) (hk:xG w w') (h:zqf w w' e sz rows v):mN (base w) Z (.k (.newl e sz none rows)) v w':=by
 intro n;obtain⟨k,hk1,hk2⟩: ∃k:Option Nat,((k=none/\v=.slice none 0 0/\rows=[])\/ ∃g cap,k=some g/\v=.slice (some ⟨g,0,none⟩) rows.length cap/\Row w w' e sz rows g cap)/\(∀b,k=some b->w.heap.size<=b/\b<w'.heap.size):=by
  rcases h with⟨a,b⟩|⟨g,cap,a,b⟩
  ·exact⟨none,.inl ⟨rfl,a,b⟩,fun _ h=>by cases h⟩
  ·obtain⟨cur,hc,_⟩:=b.ex
   exact⟨some g,.inr ⟨g,cap,rfl,a,b⟩,fun _ h=>by cases h;exact⟨b.fresh,xV hc⟩⟩
 refine⟨fun _=>k,hk,hG,fun τ b ho h=>?_,fun τ τ' b ho ho' h h'=>?_,fun τ ob h=>?_,fun s=>?_⟩
 ·have:=hk2 b h
  exact⟨Nat.not_lt.2 this.1,this.2⟩
 ·exact(zqe ho).trans (zqe ho').symm
 ·obtain⟨rfl,rfl⟩:=tb1 h
  rcases hk1 with⟨a,b,c⟩|⟨g,cap,a,b,c⟩
  ·exact .inl ⟨a,c,by simp⟩
  ·exact c.orep a
 ·by_cases hs:s=0
  ·subst hs
   simp only[if_true];refine⟨by rcases hk1 with⟨_,rfl,_⟩|⟨_,_,_,rfl,_⟩<;>rfl,fun e' sz' nl' rows' h=>?_⟩;obtain⟨_,h2⟩:=tb1 h;cases h2;rcases hk1 with⟨a,b,c⟩|⟨g,cap,a,b,c⟩
   ·exact .inl ⟨a,b⟩
   ·obtain⟨cur,hc,hz,_⟩:=c.ex
    exact .inr ⟨g,cur,cap,a,hc,hz,b⟩
  ·simp only[hs,if_false];trivial
theorem zpP {w w':World} {e sz n:Nat} {rows:List (List C)} {v:Value} (h:Plain sz rows) (hw:w'.ownsRow w.heap.size e sz v n (qA rows)) (hn:n=rows.length):zqf w w' e sz rows v:=by
 subst hn;rcases hw.2 with⟨h1,h2⟩|⟨g2,cap,cur,h1,h2,h3,h4,h5,h6,h7⟩
 ·exact .inl ⟨h1,ZZ h2⟩
 ·refine .inr ⟨g2,cap,h1,h2,⟨cur,h3,h6,fun i j r c hr hc=>⟨wE c,?_,fun Z=>zha (h.at hr hc).2⟩⟩,h.pos,h4,h5,h.len⟩
  have:=(h.at hr hc).1;rw[<-h7,Z4] at this;split at this
  ·simpa using this
  ·cases this
theorem zlJ (l:List Int):Plain 1 (zM l):=by
 refine⟨by decide,fun r hr=>?_,fun r hr c hc=>?_⟩<;>obtain⟨s,_,rfl⟩:=ZB.1 hr
 ·rfl
 ·simp at hc;subst hc;rfl
end Go.Abs
namespace Go.Proofs
open Go.Shelf Go.RowKit Go.Lib Go.Wd Go.Wire Go.Ex
def vV (r:Nat):Bool:=decide (r<33)||decide (r>126)
theorem zlK (r:Nat) (W:World):FnGives Tryz.prog 98 #[] #[encR r] (.bool (vV r)) W:=by
 show Calls Tryz.prog 98 #[.int .i32 (r:Int)] W _;by_cases h1:r<33
 ·have c1:(r:Int)<33:=by omega
  have e:vV r=true:=by simp[vV,h1]
  rw[e]
  go_enter Tryz.func98,Tryz.ntmps98
  go_wp2
  go_ret
  exact⟨rfl,0,rfl⟩
 ·have c1: ¬(r:Int)<33:=by omega
  by_cases h2:r>126
  ·have c2:(r:Int)>126:=by omega
   have e:vV r=true:=by simp[vV,h1,h2]
   rw[e]
   go_enter Tryz.func98,Tryz.ntmps98
   go_wp2
   go_ret
   exact⟨rfl,0,rfl⟩
  ·have c2: ¬(r:Int)>126:=by omega
   have e:vV r=false:=by simp[vV,h1,h2]
   rw[e]
   go_enter Tryz.func98,Tryz.ntmps98
   go_wp2
   go_ret
   exact⟨rfl,0,rfl⟩
theorem zlL (s:ByteArray) (i:Nat) (h:(s.get! i).toNat<128):Utf8.decode s i=((s.get! i).toNat,1):=by
 unfold Utf8.decode;simp only[Yq];rw[if_pos h]
theorem zlM (s:ByteArray) (i:Nat) (h: ¬(s.get! i).toNat<128):128<=(Utf8.decode s i).1:=by
 unfold Utf8.decode Utf8.runeError;simp only[Yq,Zp,decide_eq_true_eq]
 repeat' split
 all_goals simp only
 all_goals omega
theorem zlN (s:Txt) (i:Nat) (h:i<s.length):(⟨s.toArray⟩:ByteArray).get! i=s[i]:=by
 show(s.toArray)[i]! =s[i];simp[h]
theorem zhe (s:Txt): ∀(f pos:Nat),s.length-pos<=f->(Lib.idxFuncFrom vV true ⟨s.toArray⟩ f pos<0 ↔ (s.drop pos).all vL=true)
 |0,pos,h=>by
  rw[ZC (by omega)];simp[Lib.idxFuncFrom]
 |f+1,pos,h=>by
  unfold Lib.idxFuncFrom;have hs:(⟨s.toArray⟩:ByteArray).size=s.length:=rfl;rw[hs];by_cases hp:pos<s.length
  ·rw[if_pos hp,ZE hp,Yz,Zp]
   have hg:=zlN s pos hp;by_cases h8:(s[pos]).toNat<128
   ·rw[zlL _ _ (by rw[hg];exact h8),hg]
    by_cases hb:vV (s[pos]).toNat=true
    ·rw[if_pos hb]
     have: ¬vL s[pos]=true:=fun q=>by
      unfold vL at q;unfold vV at hb;rw[decide_eq_true_eq] at q;rw[Yi,decide_eq_true_eq,decide_eq_true_eq] at hb;omega
     exact⟨fun q=>absurd q (by omega),fun q=>absurd q.1 this⟩
    ·rw[if_neg hb]
     have:vL s[pos]=true:=by
      unfold vL;unfold vV at hb;rw[Yi,decide_eq_true_eq,decide_eq_true_eq] at hb;rw[decide_eq_true_eq];omega
     rw[zhe s f (pos+1) (by omega)];exact⟨fun q=>⟨this,q⟩,fun q=>q.2⟩
   ·have hd:=zlM ⟨s.toArray⟩ pos (by rw[hg];exact h8)
    have hb:vV (Utf8.decode ⟨s.toArray⟩ pos).1=true:=by
     unfold vV;rw[Yi,decide_eq_true_eq,decide_eq_true_eq];omega
    rw[if_pos hb];have: ¬vL s[pos]=true:=fun q=>by
     unfold vL at q;rw[decide_eq_true_eq] at q;omega
    exact⟨fun q=>absurd q (by omega),fun q=>absurd q.1 this⟩
  ·rw[if_neg hp,ZC (by omega)]
   simp
end Go.Proofs
namespace Go.Abs
open Go.Proofs Go.RowKit Go.Lib Go.Wd Go.Wire Go.Ex
def sigI (s:Txt):Int:=Lib.idxFunc vV true ⟨s.toArray⟩
theorem zlO (s:Txt):sigI s<0 ↔ s.all vL=true:=zhe s s.length 0 (by omega)
theorem c97 (s:Txt):Spec Tryz.prog 97 [.str s,.k (.c (.fn 98 []))] (fun v=>v=.int .i64 (sigI s)):=by
 refine⟨rH (by kernel_rfl),fun w Z vs hG hz ha=>?_⟩;obtain⟨vl⟩:=vs
 match vl,ha with
 |[],ha=>exact absurd ha.1 (by simp)
 |[_],ha=>exact absurd ha.1 (by simp)
 |_::_::_::_,ha=>exact absurd ha.1 (by simp)
 |[v,v2],ha=>
  have e1:=uQ (ha.2 0 _ v rfl rfl).2.2;subst e1;have h2:PRep w Z (.fn 98 []) v2:=(ha.2 1 _ v2 rfl rfl).2.2;obtain⟨lb,rfl,hlb⟩: ∃lb:Array Value,v2=.func (.func 98) #[] lb/\lb.size=0:=by
   cases h2 with
   |fn _ _ vs _ hs _ _=>exact⟨vs,rfl,hs⟩
  obtain rfl:lb= #[]:=YR hlb;refine(Any.strings_IndexFunc Tryz.laysIdxF 98 #[] (enters_of Tryz.func98 (by kernel_rfl) rfl) vV ⟨s.toArray⟩ w (fun W x _=>zlK x W)).mono ?_;rintro e w' ⟨rfl,hb⟩;exact⟨_,_,rfl,rfl,fun _=>rfl,oG hG (xM hb) (fun _=>rfl) (fun _=>⟨rfl,.int _ _⟩)⟩
theorem c59 (s:Txt):Spec Tryz.prog 59 [.str s] (fun v=>v=.bool (vM s)):=by
 refine Spec.of_awlS hf59 okf59 (by simp) fun S hS=>?_
 have g:=c97 s;have hn:=zlO s;generalize sigI s=k at g hn;unfold vM at hS;simp only[Qs,Za,Ψ59];refine⟨fun q=>?_,fun q=>⟨fun h20=>?_,fun h20=>?_⟩⟩
 ·rw[decide_eq_false (fun z=>z q)] at hS;exact hS
 ·refine zF g ?_ (ha:=by rfl)
  rw[decide_eq_true q,decide_eq_true (by omega),ZJ,ZJ] at hS;simp only[Qs,Za];exact wJ hS (by rw[decide_eq_true_eq,hn])
 ·rw[decide_eq_true q,decide_eq_false (by omega)] at hS;exact hS
theorem zlP (s:Txt) (hl:s.length<=9223372036854775807):Spec Tryz.prog 129 [.str s] (fun v=>v=.bool (!vM s)):=by
 refine Spec.of_awlS hf129 okf129 (by simp) fun S hS=>?_
 simp only[Qs,Za,Ψ129];refine zF (c59 s) ?_ (ha:=by rfl);simp only[Qs];exact hS
theorem c58 (s:Txt):Spec Tryz.prog 58 [.str s] (fun v=>v=.bool (!vM s)):=by
 refine Spec.of_awlS hf58 okf58 (by simp) fun S hS=>?_
 simp only[Qs,Za,Ψ58];refine zF (c59 s) ?_ (ha:=by rfl);simp only[Qs];exact hS
def fstN {α:Type} (p:α->Bool):List α->Nat->Int
 |[],_=> -1
 |x::l,i=>if p x=true then(i:Int) else fstN p l (i+1)
theorem oJ {α:Type} {p:α->Bool} {l:List α} {i:Nat} (h:i<l.length):fstN p (l.drop i) i=if p l[i]=true then(i:Int) else fstN p (l.drop (i+1)) (i+1):=by
 rw[ZE h,fstN]
theorem pE {α:Type} {p:α->Bool}: ∀(l:List α) (i:Nat),fstN p l i>=0 ↔ l.any p=true
 |[],i=>by simp[fstN]
 |x::l,i=>by
  rw[fstN,List.any_cons];by_cases h:p x=true
  ·rw[if_pos h,h];simp
  ·rw[if_neg h,pE l (i+1)];simp[h]
theorem c96 {g:Nat} {p:Txt->Bool} (l:List Txt) (hg: ∀s∈l,Spec Tryz.prog g [.str s] (fun v=>v=.bool (p s))) (hl:l.length<=9223372036854775807):Spec Tryz.prog 96 [lst 1 (zJ l),.k (.c (.fn g []))] (fun v=>v=.int .i64 (fstN p l 0)):=by
 refine Spec.of_awlS hf96 okf96 (by simp) fun S hS=>?_
 simp only[yB,Qs,Zc,Za,Ψ96];rw[uu f96l17.eq_1];refine yA (fun i:Nat=>[(0,lst 1 (zJ l)),(1,.k (.c (.fn g []))),(7,.int .i64 l.length),(8,.int .i64 i)]) (fun _=>[]) (fun i=>i<=l.length/\fstN p (l.drop i) i=fstN p l 0) (fun i=>l.length-i) 0 rfl rfl ⟨ZA _,by simp⟩ ?_;rintro i ⟨hi,hD⟩;by_cases hlt:i<l.length
 ·have c1:(i:Int)<l.length:=by omega
  have c4:IntKind.i64.wrap ((i:Int)+1)=(i:Int)+1:=wrap_in (by omega) (by omega);have gi:=hg l[i] (Zx hlt);rw[oJ hlt] at hD;simp only[c1,yB,uI hlt,Qs,Za,Ψ96];refine pC gi ?_ (ha:=by rfl);cases hp:p l[i] with
  |true=>
   rw[if_pos hp] at hD;rw[<-hD] at hS;simp only[Qs,Za,Ψ96];exact hS
  |false=>
   rw[if_neg (by rw[hp];simp)] at hD;simp only[c4,Qs,Za,Ψ96];exact Next.intro (i+1) rfl rfl ⟨by omega,hD⟩ (by omega)
 ·have c1: ¬(i:Int)<l.length:=by omega
  rw[ZC (by omega)] at hD;rw[<-hD] at hS;simp only[c1,Qs,Xm,Za,Ψ96];exact hS
theorem c57 {g:Nat} {p:Txt->Bool} (l:List Txt) (hg: ∀s∈l,Spec Tryz.prog g [.str s] (fun v=>v=.bool (p s))) (hl:l.length<=9223372036854775807):Spec Tryz.prog 57 [lst 1 (zJ l),.k (.c (.fn g []))] (fun v=>v=.bool (l.any p)):=by
 refine Spec.of_awlS hf57 okf57 (by simp) fun S hS=>?_
 have g1:=c96 l hg hl;have hp:=pE (p:=p) l 0;generalize fstN p l 0=x at g1 hp;simp only[Qs,Zc,Za,Ψ57];refine zF g1 ?_ (ha:=by simp only[Zm,Zq,zB,V.norm,zO,C.norm,wD]<;>rfl);simp only[Qs];refine wJ hS ?_;rw[decide_eq_true_eq];exact hp
theorem c40 (l:List Txt) (s:Txt) (hl:l.length<=9223372036854775807):Spec Tryz.prog 40 [lst 1 (zJ l),.str s] (fun v=>v=.int .i64 (fstN (fun x=>decide (s=x)) l 0)):=by
 refine Spec.of_awlS hf40 okf40 (by simp) fun S hS=>?_
 simp only[yB,Qs,Zc,Za,Ψ40];rw[uu f40l17.eq_1];refine yA (fun i:Nat=>[(0,lst 1 (zJ l)),(1,.str s),(7,.int .i64 l.length),(8,.int .i64 i)]) (fun _=>[]) (fun i=>i<=l.length/\fstN (fun x=>decide (s=x)) (l.drop i) i=fstN (fun x=>decide (s=x)) l 0) (fun i=>l.length-i) 0 rfl rfl ⟨ZA _,by simp⟩ ?_;rintro i ⟨hi,hD⟩;by_cases hlt:i<l.length
 ·have c1:(i:Int)<l.length:=by omega
  have c4:IntKind.i64.wrap ((i:Int)+1)=(i:Int)+1:=wrap_in (by omega) (by omega);rw[oJ hlt] at hD;by_cases he:s=l[i]
  ·have e1:(s==l[i])=true:=by simpa using he
   rw[if_pos (decide_eq_true he)] at hD;rw[<-hD] at hS;simp only[c1,e1,yB,uI hlt,Qs,Za,Ψ40];exact hS
  ·have e1:(s==l[i])=false:=by simpa using he
   rw[if_neg (by rw[decide_eq_false he];simp)] at hD;simp only[c1,c4,e1,yB,uI hlt,Qs,Za,Ψ40];exact Next.intro (i+1) rfl rfl ⟨by omega,hD⟩ (by omega)
 ·have c1: ¬(i:Int)<l.length:=by omega
  rw[ZC (by omega)] at hD;rw[<-hD] at hS;simp only[c1,Qs,Xm,Za,Ψ40];exact hS
theorem zlQ (l:List Txt) (s:Txt) (hl:l.length<=9223372036854775807):Spec Tryz.prog 130 [lst 1 (zJ l),.str s] (fun v=>v=.bool (decide (s∈l))):=by
 refine Spec.of_awlS hf130 okf130 (by simp) fun S hS=>?_
 have g1:=c40 l s hl;have hp:=pE (p:=fun x=>decide (s=x)) l 0;generalize fstN (fun x=>decide (s=x)) l 0=x at g1 hp;simp only[Qs,Zc,Za,Ψ130];refine zF g1 ?_ (ha:=by simp only[Zm,Zq,zB,V.norm,zO,C.norm,wD]<;>rfl);simp only[Qs];refine wJ hS ?_;rw[decide_eq_true_eq,decide_eq_true_eq,hp,Yo];simp
theorem zlR (l:List Txt) (i:Nat):(zJ l).take i=zJ (l.take i):=by simp[zJ,Xr]
theorem cZ (l:List Txt) (i:Nat):rZ l (i+1)=(rZ l i||decide (l.getD i []∈l.take i)):=rfl
theorem zhf (l:List Txt): ∀{i j:Nat},i<=j->rZ l i=true->rZ l j=true:=fun{i j} h=>by
 induction h with
 |refl=>exact id
 |step _ ih=>intro q;rw[cZ,ih q];rfl
theorem c95 (l:List Txt) (hw: ∀s∈l,s.length<=9223372036854775807) (hl:l.length<=9223372036854775807):Spec Tryz.prog 95 [.agg [zC 1 (zJ l)]] (fun v=>v=.int .i64 (wI l)):=by
 refine Spec.of_awlS hf95 okf95 (by simp) fun S hS=>?_
 unfold wI at hS;by_cases h4:l.length>4
 ·rw[if_pos h4] at hS
  have c1:(l.length:Int)>4:=by omega
  simp only[yB,c1,Qs,Za,Ψ95];exact hS
 rw[if_neg h4] at hS;have c1: ¬(l.length:Int)>4:=by omega
 by_cases h0:l=[]
 ·rw[if_pos h0] at hS
  have c2:((l.length:Int)==0)=true:=by simp[h0]
  simp only[yB,c1,c2,Qs,Za,Ψ95];exact hS
 rw[if_neg h0] at hS;have c2:((l.length:Int)==0)=false:=by
  have:=Yh.2 h0;exact beq_false_of_ne (by omega)
 have g1:=c57 (g:=129) (p:=fun s=> !vM s) l (fun s hs=>zlP s (hw s hs)) hl;by_cases hv:l.all vM=true
 ·have ha:(l.any fun s=> !vM s)=false:=by
   rw[List.any_eq_false];intro x hx;have:=Zu.1 hv x hx;simp[this]
  rw[if_pos hv] at hS;rw[ha] at g1;simp only[yB,c1,c2,Qs,Za,Ψ95];refine zF g1 ?_ (ha:=by simp only[Zm,Zq,zB,V.norm,zO,C.norm,wD]<;>rfl);simp only[yB,Qs,Za,Ψ95];rw[uu f95l17.eq_1];refine yA (fun i:Nat=>[(3,lst 1 (zJ l)),(19,.int .i64 l.length),(20,.int .i64 i)]) (fun _=>[]) (fun i=>i<=l.length/\rZ l i=false) (fun i=>l.length-i) 0 rfl rfl ⟨ZA _,rfl⟩ ?_;rintro i ⟨hi,hD⟩;by_cases hlt:i<l.length
  ·have d1:(i:Int)<l.length:=by omega
   have c4:IntKind.i64.wrap ((i:Int)+1)=(i:Int)+1:=wrap_in (by omega) (by omega);have gc:=zlQ (l.take i) l[i] (by rw[Yy];omega);have hgd:l.getD i []=l[i]:=by rw[Zh,Zg hlt];rfl
   have hsu:=cZ l i;rw[hD,hgd,Ym] at hsu;simp only[d1,c4,yB,uI hlt,zlR,Qs,zcZ,zeg,lO,Za,Yl,Ψ95];refine⟨by omega,?_⟩;refine rG gc ?_ (ha:=by simp only[Zm,Zq,zB,V.norm,C.norm,wD]<;>rfl);by_cases hm:l[i]∈l.take i
   ·rw[decide_eq_true hm] at hsu
    rw[if_pos (zhf l (by omega:i+1<=l.length) hsu)] at hS;simp only[decide_eq_true hm,Qs,Ψ95];exact hS
   ·rw[decide_eq_false hm] at hsu
    simp only[decide_eq_false hm,c4,Qs,Za,Ψ95];exact Next.intro (i+1) rfl rfl ⟨by omega,hsu⟩ (by omega)
  ·have d1: ¬(i:Int)<l.length:=by omega
   obtain rfl:i=l.length:=by omega
   rw[if_neg (by rw[hD];simp)] at hS;simp only[d1,Qs,Za,Ψ95];exact hS
 ·have ha:(l.any fun s=> !vM s)=true:=by
   rw[Yo];obtain⟨x,hx,hq⟩:=YD.1 (YE.2 hv);exact⟨x,hx,by simpa using hq⟩
  rw[if_neg hv] at hS;rw[ha] at g1;simp only[yB,c1,c2,Qs,Za,Ψ95];refine zF g1 ?_ (ha:=by simp only[Zm,Zq,zB,V.norm,zO,C.norm,wD]<;>rfl);simp only[Qs,Ψ95];exact hS
def xX (w:List Txt):List C:=[zC 1 (zJ w)]
def zR (f:Fld):List C:=[.str f.name,zC 1 (f.words.map xX)]
def zV (d:Dcm):List C:=[.str d.kind,zC 2 (d.flds.map zR)]
@[simp] theorem oK (w:List Txt):C.normRow (xX w)=xX w:=by simp only[xX,C.normRow,zO,wD]
@[simp] theorem wO (f:Fld):C.normRow (zR f)=zR f:=by
  simp only[zR,C.normRow,yG oK];rfl
@[simp] theorem yU (d:Dcm):C.normRow (zV d)=zV d:=by
  simp only[zV,C.normRow,yG wO];rfl
theorem lX {l:List (List Txt)} {i:Nat} (h:i<l.length):(l.map xX).getD i []=[zC 1 (zJ l[i])]:=by simp[xX,h]
theorem oL {l:List Fld} {i:Nat} (h:i<l.length):(l.map zR).getD i []=[.str l[i].name,zC 1 (l[i].words.map xX)]:=by simp[zR,h]
structure FldS (f:Fld):Prop where
 nm:f.name.length<=9223372036854775807
 ws:f.words.length<=9223372036854775807
 sp: ∀w∈f.words,w.length<=9223372036854775807/\ ∀s∈w,s.length<=9223372036854775807
structure DcmS (d:Dcm):Prop where
 kd:d.kind.length<=9223372036854775807
 fs:d.flds.length<=9223372036854775807
 fl: ∀f∈d.flds,FldS f
theorem c94 (f g:Fld):Spec Tryz.prog 94 [.agg (zR g),.k (.c (.ro (zR f) 0))] (fun v=>v=.bool (decide (g.name=f.name))):=by
 refine Spec.of_awlS hf94 okf94 (by simp) fun S hS=>?_
 unfold zR;simp only[Qs,Zc,Zl,Za,Ψ94];refine wJ hS ?_;simp
theorem zlS (f:Fld) (l:List Fld) (hl:l.length<=9223372036854775807):Spec Tryz.prog 128 [lst 2 (l.map zR),.k (.c (.fn 94 [.ro (zR f) 0]))] (fun v=>v=.int .i64 (fstN (fun g=>decide (g.name=f.name)) l 0)):=by
 refine Spec.of_awlS hf128 okf128 (by simp) fun S hS=>?_
 simp only[zI,Qs,Zc,Za,Zi,Ψ128];rw[uu f128l17.eq_1];refine yA (fun i:Nat=>[(0,lst 2 (l.map zR)),(1,.k (.c (.fn 94 [.ro (zR f) 0]))),(7,.int .i64 l.length),(8,.int .i64 i)]) (fun _=>[]) (fun i=>i<=l.length/\fstN (fun g=>decide (g.name=f.name)) (l.drop i) i=fstN (fun g=>decide (g.name=f.name)) l 0) (fun i=>l.length-i) 0 rfl rfl ⟨ZA _,by simp⟩ ?_;rintro i ⟨hi,hD⟩;by_cases hlt:i<l.length
 ·have c1:(i:Int)<l.length:=by omega
  have c4:IntKind.i64.wrap ((i:Int)+1)=(i:Int)+1:=wrap_in (by omega) (by omega);have gi:=c94 f l[i];rw[oJ hlt] at hD;simp only[c1,zI,oL hlt,Qs,Za,Zi,Ψ128];refine pC gi ?_ (ha:=by simp only[Zm,Zq,ZS,Ya,zB,V.norm,C.norm,wO,zR,C.normRow,yG oK]<;>rfl);by_cases he:l[i].name=f.name
  ·rw[if_pos (decide_eq_true he)] at hD
   rw[<-hD] at hS;simp only[decide_eq_true he,Qs,Za,Ψ128];exact hS
  ·rw[if_neg (by rw[decide_eq_false he];simp)] at hD
   simp only[decide_eq_false he,c4,Qs,Za,Ψ128];exact Next.intro (i+1) rfl rfl ⟨by omega,hD⟩ (by omega)
 ·have c1: ¬(i:Int)<l.length:=by omega
  rw[ZC (by omega)] at hD;rw[<-hD] at hS;simp only[c1,Qs,Xm,Za,Ψ128];exact hS
theorem c93 (f:Fld) (l:List Fld) (hl:l.length<=9223372036854775807):Spec Tryz.prog 93 [lst 2 (l.map zR),.k (.c (.fn 94 [.ro (zR f) 0]))] (fun v=>v=.bool (l.any fun g=>decide (g.name=f.name))):=by
 refine Spec.of_awlS hf93 okf93 (by simp) fun S hS=>?_
 have g1:=zlS f l hl;have hp:=pE (p:=fun g:Fld=>decide (g.name=f.name)) l 0;generalize fstN (fun g:Fld=>decide (g.name=f.name)) l 0=x at g1 hp;simp only[Qs,Zc,Za,Ψ93];refine zF g1 ?_ (ha:=by simp only[Zm,Zq,zB,V.norm,C.norm,yG wO,C.normRow,wO]<;>rfl);simp only[Qs];exact wJ hS (by rw[decide_eq_true_eq];exact hp)
theorem nW {f:Nat->Int} {n i:Nat} (h:i<n):xL f (n-i) i=if f i=0 then xL f (n-(i+1)) (i+1) else f i:=by
 obtain⟨k,hk⟩: ∃k,n-i=k+1:=⟨n-i-1,by omega⟩;rw[hk,show n-(i+1)=k by omega,xL]
theorem bB (l:List Fld) (i:Nat):(l.map zR).take i=(l.take i).map zR:=by simp[Xr]
theorem c55 (d:Dcm) (hd:DcmS d):Spec Tryz.prog 55 [.agg (zV d)] (fun v=>v=.int .i64 (docE d)):=by
 refine Spec.of_awlS hf55 okf55 (by simp) fun S hS=>?_
 have g1:=c92 d.kind hd.kd;have hfs:=hd.fs;unfold docE at hS;unfold zV;cases hk:nameP d.kind with
 |false=>
  rw[hk] at g1;rw[if_neg (by rw[hk];simp)] at hS;simp only[Qs,Zc,Zl,Za,Ψ55];refine zF g1 ?_ (ha:=by rfl);simp only[Qs,Ψ55];exact hS
 |true=>
  rw[hk] at g1;rw[if_pos hk] at hS;by_cases h12:d.flds.length>12
  ·rw[if_pos h12] at hS
   have c1:(d.flds.length:Int)>12:=by omega
   simp only[Qs,Zc,Zl,Za,Ψ55];refine zF g1 ?_ (ha:=by rfl);simp only[zI,c1,Qs,Zc,Za,Zi,Ψ55];exact hS
  ·rw[if_neg h12] at hS
   have c1: ¬(d.flds.length:Int)>12:=by omega
   simp only[Qs,Zc,Zl,Za,Ψ55];refine zF g1 ?_ (ha:=by rfl);simp only[zI,c1,Qs,Zc,Za,Zi,Ψ55];rw[uu f55l49.eq_1];refine yA (fun i:Nat=>[(1,.k (.c (.ro [.str d.kind,zC 2 (d.flds.map zR)] 0))),(17,lst 2 (d.flds.map zR)),(18,.int .i64 d.flds.length),(19,.int .i64 i)]) (fun _=>[]) (fun i=>i<=d.flds.length/\xL (wN d.flds) (d.flds.length-i) i=xL (wN d.flds) d.flds.length 0) (fun i=>d.flds.length-i) 0 rfl rfl ⟨ZA _,rfl⟩ ?_;rintro i ⟨hi,hD⟩;by_cases hlt:i<d.flds.length
   ·have d1:(i:Int)<d.flds.length:=by omega
    have c4:IntKind.i64.wrap ((i:Int)+1)=(i:Int)+1:=wrap_in (by omega) (by omega);rw[nW hlt] at hD;have hat:=oL hlt;have hgd:d.flds.getD i yT=d.flds[i]:=by rw[Zh,Zg hlt];rfl
    have hf:=hd.fl _ (Zx hlt);have hE:wN d.flds i=(if nameP d.flds[i].name=true then(if (d.flds.take i).any (fun g=>decide (g.name=d.flds[i].name))=true then 5 else if d.flds[i].words.length>8 then 6 else xL (fun k=>wI (d.flds[i].words.getD k [])) d.flds[i].words.length 0) else 2):=by
     unfold wN;simp only[hgd]
    generalize d.flds[i]=f at hat hf hE;have g2:=c92 f.name hf.nm;have g3:=c93 f (d.flds.take i) (by rw[Yy];omega);have hbad: ∀e:Int,wN d.flds i=e->e≠0->S (.int .i64 e):=fun e h1 h2=>by
     rw[h1,if_neg h2] at hD;rw[<-hD] at hS;exact hS
    cases hn:nameP f.name with
    |false=>
     rw[hn] at g2;rw[if_neg (by rw[hn];simp)] at hE;simp only[d1,hat,zI,Qs,Zk,Zc,Zl,Za,Zi,Ψ55];refine zF g2 ?_ (ha:=by rfl);simp only[Qs,Ψ55];exact hbad 2 hE (by decide)
    |true=>
     rw[hn] at g2;rw[if_pos hn] at hE;rw[show zR f=[.str f.name,zC 1 (f.words.map xX)] from rfl] at g3;cases ht:(d.flds.take i).any (fun g=>decide (g.name=f.name)) with
     |true=>
      rw[ht] at g3;rw[if_pos ht] at hE;simp only[d1,hat,zI,Qs,Zk,Zc,Zl,Za,Zi,Ψ55];refine zF g2 ?_ (ha:=by rfl);simp only[bB,zI,Qs,zcK,lF,zeg,lO,Zc,Za,Zi,Yl,zgI,zgJ,zgK,zgL,zgM,zgN,zgO,Ψ55];refine⟨by omega,?_⟩;refine zF g3 ?_ (ha:=by simp only[Zm,Zq,zB,V.norm,C.norm,C.normRow,yG wO,yG oK,zP wO]<;>rfl);simp only[Qs,Ψ55];exact hbad 5 hE (by decide)
     |false=>
      rw[ht] at g3;rw[if_neg (by rw[ht];simp)] at hE;by_cases h8:f.words.length>8
      ·rw[if_pos h8] at hE
       have d2:(f.words.length:Int)>8:=by omega
       simp only[d1,hat,zI,Qs,Zk,Zc,Zl,Za,Zi,Ψ55];refine zF g2 ?_ (ha:=by rfl);simp only[bB,zI,Qs,zcK,lF,zeg,lO,Zc,Za,Zi,Yl,zgI,zgJ,zgK,zgL,zgM,zgN,zgO,Ψ55];refine⟨by omega,?_⟩;refine zF g3 ?_ (ha:=by simp only[Zm,Zq,zB,V.norm,C.norm,C.normRow,yG wO,yG oK,zP wO]<;>rfl);simp only[zI,d2,Qs,Zc,Za,Zi,Ψ55];exact hbad 6 hE (by decide)
      ·rw[if_neg h8] at hE
       have d2: ¬(f.words.length:Int)>8:=by omega
       simp only[d1,hat,zI,Qs,Zk,Zc,Zl,Za,Zi,Ψ55];refine zF g2 ?_ (ha:=by rfl);simp only[bB,zI,Qs,zcK,lF,zeg,lO,Zc,Za,Zi,Yl,zgI,zgJ,zgK,zgL,zgM,zgN,zgO,Ψ55];refine⟨by omega,?_⟩;refine zF g3 ?_ (ha:=by simp only[Zm,Zq,zB,V.norm,C.norm,C.normRow,yG wO,yG oK,zP wO]<;>rfl);simp only[zI,d2,Qs,Zc,Za,Zi,Ψ55];rw[uu f55l20.eq_1];refine yA (fun k:Nat=>[(1,.k (.c (.ro [.str d.kind,zC 2 (d.flds.map zR)] 0))),(17,lst 2 (d.flds.map zR)),(18,.int .i64 d.flds.length),(19,.int .i64 i),(42,lst 1 (f.words.map xX)),(43,.int .i64 f.words.length),(44,.int .i64 k)]) (fun _=>[]) (fun k=>k<=f.words.length/\xL (fun k=>wI (f.words.getD k [])) (f.words.length-k) k=wN d.flds i) (fun k=>f.words.length-k) 0 rfl rfl ⟨ZA _,hE.symm⟩ ?_;rintro k ⟨hk2,hD3⟩;by_cases hlk:k<f.words.length
       ·have d3:(k:Int)<f.words.length:=by omega
        have c5:IntKind.i64.wrap ((k:Int)+1)=(k:Int)+1:=wrap_in (by omega) (by omega);have haw:=lX hlk;have hwg:f.words.getD k []=f.words[k]:=by rw[Zh,Zg hlk];rfl
        have hws:=hf.sp _ (Zx hlk);rw[nW hlk,hwg] at hD3;generalize f.words[k]=w at haw hws hD3;have g4:=c95 w hws.2 hws.1;simp only[d3,haw,zI,Qs,Zk,Za,Zi,Ψ55];refine zF g4 ?_ (ha:=by simp only[Zm,Zq,zB,V.norm,C.norm,C.normRow,zO,wD]<;>rfl);by_cases hw0:wI w=0
        ·have w0:(wI w !=0)=false:=by simp[hw0]
         rw[if_pos hw0] at hD3;simp only[w0,c5,Qs,Za,Ψ55];exact Next.intro (k+1) rfl rfl ⟨by omega,hD3⟩ (by omega)
        ·have w0:(wI w !=0)=true:=by simp[hw0]
         rw[if_neg hw0] at hD3;simp only[w0,Qs,Za,Ψ55];exact hbad (wI w) hD3.symm hw0
       ·have d3: ¬(k:Int)<f.words.length:=by omega
        rw[show f.words.length-k=0 by omega] at hD3;have hz:wN d.flds i=0:=hD3.symm;rw[if_pos hz] at hD;simp only[d3,c4,Qs,reduceCtorEq,Zs,Za,Ψ55];exact Next.intro (i+1) rfl rfl ⟨by omega,hD⟩ (by omega)
   ·have d1: ¬(i:Int)<d.flds.length:=by omega
    rw[show d.flds.length-i=0 by omega] at hD;have hD2:0=xL (wN d.flds) d.flds.length 0:=hD;rw[<-hD2] at hS;simp only[d1,Qs,Za,Ψ55];exact hS
end Go.Abs
namespace Go.Ex
open Go.Lib Go.Wd Go.Wire
theorem zlT {c:UInt8} (h:letB c=true):uU c=true:=by unfold uU;rw[h];rfl
theorem zlU (s:Txt):nameP s=(decide (s≠[])&&(decide (s.length<=20)&&(letB (s.getD 0 0)&&(s.drop 1).all uU))):=by
 unfold nameP;cases s with
 |nil=>rfl
 |cons c t=>
  have e:decide (spanN uU (c::t)=(c::t).length)=(c::t).all uU:=by rw[Yp,decide_eq_true_eq,cW]
  rw[e];simp only[XA,List.drop_one,List.tail_cons,Yz];cases h:letB c with
  |false=>simp
  |true=>rw[zlT h];simp
theorem zlV (c:UInt8):vL c=true ↔ 33<=c.toNat/\c.toNat<=126:=by unfold vL;rw[decide_eq_true_eq]
end Go.Ex
namespace Go.Abs
open Go.Proofs Go.RowKit Go.Lib Go.Wd Go.Wire Go.Ex
theorem zhg (c:UInt8):Spec Tryz.prog 113 [.int .u8 (c.toNat:Int)] (fun v=>v=.bool (letB c)):=by
 refine Spec.of_awlS hf113 okf113 (by simp) fun S hS=>?_
 unfold letB at hS;generalize c.toNat=a at hS;simp only[Qs,Za,Ψ113]
 repeat' (apply And.intro<;>intro _)
 all_goals (refine wJ hS ?_;simp only[Yi,decide_eq_true_eq,Z1,true_iff,false_iff];omega)
theorem zlW (c:UInt8):Spec Tryz.prog 114 [.int .u8 (c.toNat:Int)] (fun v=>v=.bool (digB c)):=by
 refine Spec.of_awlS hf114 okf114 (by simp) fun S hS=>?_
 unfold digB at hS;generalize c.toNat=a at hS;simp only[Qs,Za,Ψ114]
 repeat' (apply And.intro<;>intro _)
 all_goals (refine wJ hS ?_;simp only[Yi,decide_eq_true_eq,Z1,true_iff,false_iff];omega)
theorem zhh {s:Txt} {i:Nat} (h:i<s.length):s.getD i 0=s[i]:=by rw[Zh,Zg h];rfl
theorem c80 (s:Txt) (hl:s.length<=9223372036854775807):Spec Tryz.prog 80 [.str s] (fun v=>v=.bool (nameP s)):=by
 refine Spec.of_awlS hf80 okf80 (by simp) fun S hS=>?_
 rw[zlU] at hS;by_cases h0:s=[]
 ·subst h0
  simp only[ZG,Int.natCast_zero,Qs,Za,XJ,Ψ80];exact hS
 have hp:0<s.length:=Yh.2 h0;rw[decide_eq_true h0,ZJ] at hS;have c1: ¬(s.length:Int)<1:=by omega
 by_cases h20:s.length<=20
 ·rw[decide_eq_true h20,ZJ] at hS
  have c2: ¬(s.length:Int)>20:=by omega
  have c3:(0:Int)<s.length:=by omega
  have g0:=zhg (s.getD 0 0);simp only[c1,c2,c3,XT,Qs,Za,Yl,Ψ80];refine zF g0 ?_ (ha:=by rfl);cases hb:letB (s.getD 0 0) with
  |false=>
   rw[hb] at hS;simp only[Qs,Za,Ψ80];exact hS
  |true=>
   rw[hb,ZJ] at hS;simp only[Qs,Za,Ψ80];rw[uu f80l15.eq_1];refine yA (fun i:Nat=>[(0,.str s),(3,.int .i64 i)]) (fun _=>[]) (fun i=>1<=i/\i<=s.length/\(s.drop i).all uU=(s.drop 1).all uU) (fun i=>s.length-i) 1 rfl rfl ⟨Zt _,hp,rfl⟩ ?_;rintro i ⟨hi1,hi,hD⟩;by_cases hlt:i<s.length
   ·have d1:(i:Int)<s.length:=by omega
    have c4:IntKind.i64.wrap ((i:Int)+1)=(i:Int)+1:=wrap_in (by omega) (by omega);have hgt:=zhh hlt;have g1:=zhg s[i];have g2:=zlW s[i];rw[ZE hlt,Yz] at hD;have hI:uU s[i]=(letB s[i]||(digB s[i]||decide (s[i].toNat=95))):=rfl;have hu:((s[i].toNat:Int) !=95)= !decide (s[i].toNat=95):=by
     rw[Yp,bne_iff_ne,Xg,decide_eq_false_iff_not];omega
    rw[hI] at hD;generalize s[i]=c at hgt g1 g2 hD hu;simp only[d1,hgt,Qs,Za,Ψ80];refine zF g1 ?_ (ha:=by rfl);cases x1:letB c with
    |true=>
     rw[x1,Y7,ZJ] at hD;simp only[c4,Qs,Za,Ψ80];exact Next.intro (i+1) rfl rfl ⟨by omega,by omega,hD⟩ (by omega)
    |false=>
     rw[x1,Ym] at hD;simp only[d1,hgt,Qs,Za];refine zF g2 ?_ (ha:=by rfl);cases x2:digB c with
     |true=>
      rw[x2,Y7,ZJ] at hD;simp only[c4,Qs,Za,Ψ80];exact Next.intro (i+1) rfl rfl ⟨by omega,by omega,hD⟩ (by omega)
     |false=>
      rw[x2,Ym] at hD;cases x3:decide (c.toNat=95) with
      |true=>
       rw[x3,ZJ] at hD;rw[x3] at hu;simp only[d1,hgt,hu,c4,XP,Qs,Za,Ψ80];exact Next.intro (i+1) rfl rfl ⟨by omega,by omega,hD⟩ (by omega)
      |false=>
       rw[x3,ZP] at hD;rw[x3] at hu;rw[<-hD] at hS;simp only[d1,hgt,hu,Bool.not_false,Qs,Za,Ψ80];exact hS
   ·have d1: ¬(i:Int)<s.length:=by omega
    rw[ZC (by omega)] at hD;rw[<-hD] at hS;simp only[d1,Qs,Za,Ψ80];exact hS
 ·rw[decide_eq_false h20,ZP] at hS
  have c2:(s.length:Int)>20:=by omega
  simp only[c1,c2,Qs,Za,Ψ80];exact hS
theorem zlX (s:Txt) (hl:s.length<=9223372036854775807):Spec Tryz.prog 115 [.str s] (fun v=>v=.bool (vM s)):=by
 refine Spec.of_awlS hf115 okf115 (by simp) fun S hS=>?_
 unfold vM at hS;simp only[Qs,Ψ115];rw[uu f115l15.eq_1];refine yA (fun i:Nat=>[(0,.str s),(3,.int .i64 i)]) (fun _=>[]) (fun i=>i<=s.length/\(s.drop i).all vL=s.all vL) (fun i=>s.length-i) 0 rfl rfl ⟨ZA _,rfl⟩ ?_;rintro i ⟨hi,hD⟩;by_cases hlt:i<s.length
 ·have d1:(i:Int)<s.length:=by omega
  have c4:IntKind.i64.wrap ((i:Int)+1)=(i:Int)+1:=wrap_in (by omega) (by omega);have hgt:=zhh hlt;rw[ZE hlt,Yz] at hD;have hI:=zlV s[i];generalize s[i]=c at hgt hD hI;by_cases h1:(c.toNat:Int)<33
  ·have hf:vL c=false:=by rw[YE];intro h;have:=hI.1 h;omega
   rw[hf,ZP] at hD;rw[<-hD,YU,YU] at hS;simp only[d1,h1,hgt,Qs,Za,Ψ115];exact hS
  ·by_cases h2:(c.toNat:Int)>126
   ·have hf:vL c=false:=by rw[YE];intro h;have:=hI.1 h;omega
    rw[hf,ZP] at hD;rw[<-hD,YU,YU] at hS;simp only[d1,h1,h2,hgt,Qs,Za,Ψ115];exact hS
   ·have hf:vL c=true:=hI.2 (by omega)
    rw[hf,ZJ] at hD;simp only[d1,h1,h2,c4,hgt,Qs,Za,Ψ115];exact Next.intro (i+1) rfl rfl ⟨by omega,hD⟩ (by omega)
 ·have d1: ¬(i:Int)<s.length:=by omega
  rw[ZC (by omega)] at hD;rw[<-hD,Xf,Bool.and_true] at hS;by_cases h0:s=[]
  ·have c1: ¬(s.length:Int)>=1:=by rw[h0];decide
   rw[decide_eq_false (fun q=>q h0)] at hS;simp only[d1,c1,Qs,Za,Ψ115];exact hS
  ·have hp:0<s.length:=Yh.2 h0
   rw[decide_eq_true h0,ZJ] at hS;have c1:(s.length:Int)>=1:=by omega
   by_cases h20:s.length<=20
   ·have c2:(s.length:Int)<=20:=by omega
    rw[decide_eq_true h20] at hS;simp only[d1,c1,c2,Qs,Za,Ψ115];exact hS
   ·have c2: ¬(s.length:Int)<=20:=by omega
    rw[decide_eq_false h20] at hS;simp only[d1,c1,c2,Qs,Za,Ψ115];exact hS
def uV (l:List (List Txt)):Nat:=(l.map List.length).foldl (· * ·) 1
theorem iV {l:List (List Txt)} {i:Nat} (h:i<l.length):uV (l.take (i+1))=uV (l.take i)*l[i].length:=by
 unfold uV;rw[List.take_add_one,Zg h,Option.toList_some,ZW,Xq];rfl
theorem iW {l:List (List Txt)} (h8:l.length<=8) (h4: ∀w∈l,w.length<=4): ∀i,i<=l.length->uV (l.take i)<=4 ^ i
 |0,_=>by simp[uV]
 |i+1,h=>by
  rw[iV (by omega),Nat.pow_succ];exact YX (iW h8 h4 i (by omega)) (h4 _ (Zx _))
structure FldR (f:Fld):Prop where
 s:FldS f
 ws:f.words.length<=8
 sp: ∀w∈f.words,1<=w.length/\w.length<=4
theorem bC {l:List Txt} (h:wI l=0):1<=l.length/\l.length<=4/\l.all vM=true/\rZ l l.length=false:=by
 unfold wI at h;split at h
 ·cases h
 split at h
 ·cases h
 rename_i h4 h0;split at h
 ·split at h
  ·cases h
  ·rename_i hv ht
   exact⟨Yh.2 h0,by omega,hv,by simpa using ht⟩
 ·cases h
theorem bD {f:Nat->Int}: ∀{n i:Nat},xL f n i=0-> ∀k,k<n->f (i+k)=0
 |0,_,_,k,hk=>absurd hk (Nat.not_lt_zero _)
 |n+1,i,h,k,hk=>by
  rw[xL] at h;split at h
  ·rename_i h0
   cases k with
   |zero=>exact h0
   |succ k=>rw[show i+(k+1)=i+1+k by omega];exact bD h k (by omega)
  ·rename_i h0;exact absurd h h0
structure DcmR (d:Dcm):Prop where
 s:DcmS d
 kd:nameP d.kind=true
 fs:d.flds.length<=12
 fe: ∀i,i<d.flds.length->wN d.flds i=0
theorem oM {d:Dcm} (hs:DcmS d) (h:docE d=0):DcmR d:=by
 unfold docE at h;split at h
 ·rename_i hk
  split at h
  ·cases h
  ·rename_i h12
   exact⟨hs,hk,by omega,fun i hi=>by have:=bD h i hi;rwa [ZV] at this⟩
 ·cases h
theorem bE {l:List Fld} {i:Nat} (hi:i<l.length) (hs:FldS l[i]) (h:wN l i=0):FldR l[i]/\nameP l[i].name=true/\(l.take i).any (fun g=>decide (g.name=l[i].name))=false/\ ∀w∈l[i].words,wI w=0:=by
 have hgd:l.getD i yT=l[i]:=by rw[Zh,Zg hi];rfl
 unfold wN at h;simp only[hgd] at h;split at h
 ·rename_i hn
  split at h
  ·cases h
  rename_i ht;split at h
  ·cases h
  rename_i h8;have hw: ∀w∈l[i].words,wI w=0:=fun w hw=>by
   obtain⟨k,hk,rfl⟩:=YW hw;have:=bD h k hk;simp only[ZV] at this
   rwa [Zh,Zg hk] at this
  exact⟨⟨hs,by omega,fun w hm=>⟨(bC (hw w hm)).1,(bC (hw w hm)).2.1⟩⟩,hn,by simpa using ht,hw⟩
 ·cases h
theorem DcmR.fld {d:Dcm} (h:DcmR d) {f:Fld} (hf:f∈d.flds):FldR f:=by
 obtain⟨i,hi,rfl⟩:=YW hf;exact(bE hi (h.s.fl _ hf) (h.fe i hi)).1
theorem bF {f:Fld} (hf:FldR f):yQ f<=65536:=by
 have:=iW hf.ws (fun w hw=>(hf.sp w hw).2) f.words.length (Zt _);rw[Yk] at this;have h2:4 ^ f.words.length<=4 ^ 8:=Yf (by decide) hf.ws;unfold yQ;exact ZT this (ZT h2 (by decide))
theorem zhi {f:Fld} (hf:FldR f):1<=yQ f:=by
 have: ∀i,i<=f.words.length->1<=uV (f.words.take i):=fun i=>by
  induction i with
  |zero=>intro _;simp[uV]
  |succ i ih=>
   intro h;rw[iV (by omega)];exact Nat.mul_pos (ih (by omega)) (hf.sp _ (Zx _)).1
 have:=this f.words.length (Zt _)
 rwa [Yk] at this
theorem c61 (f:Fld) (hf:FldR f):Spec Tryz.prog 61 [.agg (zR f)] (fun v=>v=.int .i64 (yQ f:Nat)):=by
 refine Spec.of_awlS hf61 okf61 (by simp) fun S hS=>?_
 have h8:=hf.ws;unfold zR;simp only[zI,Qs,Zc,Za,Zi,Ψ61];rw[uu f61l13.eq_1];refine yA (fun i:Nat=>[(3,.int .i64 (uV (f.words.take i):Nat)),(7,lst 1 (f.words.map xX)),(8,.int .i64 f.words.length),(9,.int .i64 i)]) (fun _=>[]) (fun i=>i<=f.words.length) (fun i=>f.words.length-i) 0 rfl rfl (ZA _) ?_;intro i hi;by_cases hlt:i<f.words.length
 ·have c1:(i:Int)<f.words.length:=by omega
  have c4:IntKind.i64.wrap ((i:Int)+1)=(i:Int)+1:=wrap_in (by omega) (by omega);have hp:=iW hf.ws (fun w hw=>(hf.sp w hw).2) (i+1) (by omega);have hq:4 ^ (i+1)<=4 ^ 8:=Yf (by decide) (by omega);have hpt:=iV hlt;have hws:=lX hlt;generalize f.words[i]=w at hpt hws;have c5:IntKind.i64.wrap (((uV (f.words.take i):Nat):Int)*(w.length:Int))=((uV (f.words.take (i+1)):Nat):Int):=by
   have h4:(4:Nat) ^ 8=65536:=by decide
   rw[hpt,wrap_in]
   ·exact(Yt _ _).symm
   ·rw[<-Yt];omega
   ·rw[<-Yt,<-hpt];omega
  simp only[c1,c4,c5,hws,zI,yB,Qs,Zk,Za,Zi,Ψ61];exact Next.intro (i+1) rfl rfl (by omega) (by omega)
 ·have c1: ¬(i:Int)<f.words.length:=by omega
  rw[Z9 (by omega)];simp only[c1,Qs,Za,Ψ61];exact hS
theorem c77 (d:Dcm) (hd:DcmS d):Spec Tryz.prog 77 [.agg (zV d)] (fun v=>v=.tup [.int .i64 (cntD d).1,.int .i64 (cntD d).2]):=by
 refine Spec.of_awlP hf77 okf77 (by simp) fun S hS=>?_
 have g1:=c55 d hd;have hn:[C.str d.kind,zC 2 (d.flds.map zR)]=zV d:=rfl;unfold cntD at hS;by_cases h0:docE d=0
 ·rw[if_pos h0] at hS
  have hR:=oM hd h0;have hfs:=hR.fs;have w0:(docE d !=0)=false:=by simp[h0]
  rw[<-hn] at g1⊢;simp only[Qs,Zc,Za,Ψ77];refine zF g1 ?_ (ha:=by simp only[Zm,Zq,zB,V.norm,C.norm,C.normRow,yG wO]<;>rfl);simp only[w0,zI,Qs,Zc,Za,Zi,Ψ77];rw[uu f77l19.eq_1];refine yA (fun x:Nat×Nat=>[(5,.int .i64 (x.2:Nat)),(14,lst 2 (d.flds.map zR)),(15,.int .i64 d.flds.length),(16,.int .i64 x.1)]) (fun _=>[]) (fun x=>x.1<=d.flds.length/\x.2<=4096/\vD (d.flds.drop x.1) x.2=vD d.flds 1) (fun x=>d.flds.length-x.1) (0,1) rfl rfl ⟨ZA _,by decide,rfl⟩ ?_;rintro⟨i,n⟩ ⟨hi,hn4,hD⟩;simp only[] at hi hn4 hD;by_cases hlt:i<d.flds.length
  ·have c1:(i:Int)<d.flds.length:=by omega
   have c4:IntKind.i64.wrap ((i:Int)+1)=(i:Int)+1:=wrap_in (by omega) (by omega);have hf:=hR.fld (Zx hlt);rw[ZE hlt,vD] at hD;have hat:=oL hlt;generalize d.flds[i]=f at hf hD hat;have g2:=c61 f hf;have hsz:=bF hf;rw[show zR f=[.str f.name,zC 1 (f.words.map xX)] from rfl] at g2;have hmul:n*yQ f<=4096*65536:=YX hn4 hsz;have c5:IntKind.i64.wrap ((n:Int)*((yQ f:Nat):Int))=((n*yQ f:Nat):Int):=by
    rw[Yt,wrap_in]
    ·rw[<-Yt];omega
    ·rw[<-Yt];omega
   simp only[c1,hat,zI,Qs,Zk,Zc,Za,Zi,Ψ77];refine zF g2 ?_ (ha:=by simp only[Zm,Zq,zB,V.norm,C.norm,C.normRow,yG oK]<;>rfl);by_cases hbig:n*yQ f>4096
   ·have c6:((n*yQ f:Nat):Int)>4096:=by omega
    rw[if_pos hbig] at hD;rw[<-hD] at hS;simp only[c5,c6,Qs,Zk,Za,Ψ77];exact hS _ rfl
   ·have c6: ¬((n*yQ f:Nat):Int)>4096:=by omega
    rw[if_neg hbig] at hD;simp only[c4,c5,c6,Qs,Za,Ψ77];exact Next.intro (i+1,n*yQ f) rfl rfl ⟨by simp only;omega,by simp only;omega,hD⟩ (by simp only;omega)
  ·have c1: ¬(i:Int)<d.flds.length:=by omega
   rw[ZC (by omega),vD] at hD;rw[<-hD] at hS;simp only[c1,Qs,Zk,Za,Ψ77];exact hS _ rfl
 ·rw[if_neg h0] at hS
  have w0:(docE d !=0)=true:=by simp[h0]
  rw[<-hn] at g1⊢;simp only[Qs,Zc,Za,Ψ77];refine zF g1 ?_ (ha:=by simp only[Zm,Zq,zB,V.norm,C.norm,C.normRow,yG wO]<;>rfl);simp only[w0,Qs,Zk,Za,Ψ77];exact hS _ rfl
theorem c56 (d:Dcm) (hd:DcmS d) (k:Int):Spec Tryz.prog 56 [.agg (zV d),.int .i64 k] (fun v=>v=.bool (decide (docE d=0/\0<=k/\k<d.flds.length))):=by
 refine Spec.of_awlS hf56 okf56 (by simp) fun S hS=>?_
 have g1:=c55 d hd;have hn:[C.str d.kind,zC 2 (d.flds.map zR)]=zV d:=rfl;rw[<-hn] at g1⊢;generalize docE d=e at g1 hS;simp only[Qs,Zc,Za,Ψ56];refine zF g1 ?_ (ha:=by simp only[Zm,Zq,zB,V.norm,C.norm,C.normRow,yG wO]<;>rfl);simp only[zI,Qs,Zc,Za,Zi]
 repeat' (apply And.intro<;>intro _)
 all_goals (refine wJ hS ?_;simp only[decide_eq_true_eq,Z1,false_iff];omega)
theorem nX {l:List Dcm} {i:Nat} (h:i<l.length):(l.map zV).getD i []=[.str l[i].kind,zC 2 (l[i].flds.map zR)]:=by simp[zV,h]
def wK:List Dcm->List Int->Nat->List Int×Int×Int
 |[],l,n=>(l,(n:Int),0)
 |d::r,l,n=>if (cntD d).2≠0\/(n:Int)*(cntD d).1>4096 then([],0,6) else wK r (l++[(cntD d).1]) (n*(cntD d).1.toNat)
def cnts (l:List Dcm):List Int×Int×Int:=if l.length>8 then([],0,6) else if xL (fun i=>docE (l.getD i ⟨[],[]⟩)) l.length 0=0 then wK l [] 1 else([],0,xL (fun i=>docE (l.getD i ⟨[],[]⟩)) l.length 0)
def sP (l:List Dcm):Prop:=l.length<=9223372036854775807/\ ∀d∈l,DcmS d
def zo3:Dcm:=⟨[],[]⟩
theorem iX {d:Dcm}:0<=(cntD d).1/\(cntD d).1<=4096:=by
 unfold cntD;split
 ·have: ∀(l:List Fld) (n:Nat),n<=4096->0<=(vD l n).1/\(vD l n).1<=4096:=fun l=>by
   induction l with
   |nil=>intro n h;simp only[vD];omega
   |cons f l ih=>
    intro n h;rw[vD];split
    ·simp
    ·exact ih _ (by omega)
  exact this d.flds 1 (by decide)
 ·simp
theorem qB {rows:List (List C)} (h:C.normRows rows=rows) (sz:Nat) (e:TypeId):(Abs.K.newl e sz none rows).fz.nrm=.c (zC sz rows):=by
 simp[Abs.K.fz,Abs.K.nrm,C.norm,h,zC]
theorem c37 (l:List Dcm) (hl:sP l):Spec Tryz.prog 37 [lst 2 (l.map zV)] (fun v=>v=.tup [lst 1 (zM (cnts l).1),.int .i64 (cnts l).2.1,.int .i64 (cnts l).2.2]):=by
 refine Spec.of_awlP hf37 okf37 (by simp) fun S hS=>?_
 have hlen:=hl.1;unfold cnts at hS;by_cases h8:l.length>8
 ·rw[if_pos h8] at hS
  have c1:(l.length:Int)>8:=by omega
  simp only[zI,c1,Qs,BEq.rfl,Zk,ZY,Za,Zi,Zy,Ψ37];exact hS _ rfl
 ·rw[if_neg h8] at hS
  have c1: ¬(l.length:Int)>8:=by omega
  simp only[zI,c1,Qs,Za,Zi,Ψ37];rw[uu f37l46.eq_1];refine yA (fun i:Nat=>[(0,lst 2 (l.map zV)),(17,lst 2 (l.map zV)),(18,.int .i64 l.length),(19,.int .i64 i)]) (fun _=>[]) (fun i=>i<=l.length/\xL (fun i=>docE (l.getD i ⟨[],[]⟩)) (l.length-i) i=xL (fun i=>docE (l.getD i ⟨[],[]⟩)) l.length 0) (fun i=>l.length-i) 0 rfl rfl ⟨ZA _,rfl⟩ ?_;rintro i ⟨hi,hD⟩;by_cases hlt:i<l.length
  ·have d1:(i:Int)<l.length:=by omega
   have c4:IntKind.i64.wrap ((i:Int)+1)=(i:Int)+1:=wrap_in (by omega) (by omega);have hgd:l.getD i ⟨[],[]⟩=l[i]:=by rw[Zh,Zg hlt];rfl
   rw[nW hlt,hgd] at hD;have g1:=c55 _ (hl.2 _ (Zx hlt));have hat:=nX hlt;generalize l[i]=d at hD g1 hat;rw[show zV d=[.str d.kind,zC 2 (d.flds.map zR)] from rfl] at g1;simp only[d1,hat,zI,Qs,Zk,Zc,Za,Zi,Ψ37];refine zF g1 ?_ (ha:=by simp only[Zm,Zq,zB,V.norm,C.norm,C.normRow,yG wO]<;>rfl);by_cases h0:docE d=0
   ·have w0:(docE d !=0)=false:=by simp[h0]
    rw[if_pos h0] at hD;simp only[w0,c4,Qs,Za,Ψ37];exact Next.intro (i+1) rfl rfl ⟨by omega,hD⟩ (by omega)
   ·have w0:(docE d !=0)=true:=by simp[h0]
    rw[if_neg h0] at hD;rw[<-hD,if_neg h0] at hS;simp only[w0,Qs,Zk,ZY,Za,Zy,Ψ37];exact hS _ rfl
  ·have d1: ¬(i:Int)<l.length:=by omega
   rw[show l.length-i=0 by omega] at hD;have hz:xL (fun i=>docE (l.getD i ⟨[],[]⟩)) l.length 0=0:=hD.symm;rw[if_pos hz] at hS;simp only[d1,zI,Qs,Za,Zi,Ψ37];rw[uu f37l21.eq_1];refine yA (fun x:Nat×List Int×Nat×Option Bool=>[(8,.int .i64 (x.2.2.1:Nat)),(9,.k (.own 9)),(29,lst 2 (l.map zV)),(30,.int .i64 l.length),(31,.int .i64 x.1)]) (fun x=>[(9,.arr 3 1 x.2.2.2 (zM x.2.1))]) (fun x=>x.1<=l.length/\x.2.1.length=x.1/\x.2.2.1<=4096/\wK (l.drop x.1) x.2.1 x.2.2.1=wK l [] 1) (fun x=>l.length-x.1) (0,[],1,some true) rfl rfl ⟨ZA _,rfl,by decide,rfl⟩ ?_;rintro⟨i,L,n,nl⟩ ⟨hi,hL,hn,hD⟩;simp only[] at hi hL hn hD;by_cases hlt:i<l.length
   ·have d1:(i:Int)<l.length:=by omega
    have c4:IntKind.i64.wrap ((i:Int)+1)=(i:Int)+1:=wrap_in (by omega) (by omega);have g1:=c77 _ (hl.2 _ (Zx hlt));have hat:=nX hlt;rw[ZE hlt,wK] at hD;have hr:=iX (d:=l[i]);generalize l[i]=d at hD g1 hat hr;rw[show zV d=[.str d.kind,zC 2 (d.flds.map zR)] from rfl] at g1;generalize cntD d=c at hD g1 hr;obtain⟨cn,ce⟩:=c;simp only[] at hD g1 hr;have hmul:0<=(n:Int)*cn/\(n:Int)*cn<=4096*4096:=⟨Int.mul_nonneg (by omega) hr.1,Int.mul_le_mul (by omega) hr.2 hr.1 (by omega)⟩;have c5:IntKind.i64.wrap ((n:Int)*cn)=(n:Int)*cn:=wrap_in (by omega) (by omega);simp only[d1,hat,zI,Qs,bne_iff_ne,ne_eq,Zk,Zc,Zs,Za,Zi,Ψ37];refine zF g1 ?_ (ha:=by simp only[Zm,Zq,zB,V.norm,C.norm,C.normRow,yG wO]<;>rfl);by_cases h0:ce=0
    ·have w0:(ce !=0)=false:=by simp[h0]
     by_cases hbig:(n:Int)*cn>4096
     ·rw[if_pos (.inr hbig)] at hD
      rw[<-hD] at hS;simp only[w0,c5,hbig,Qs,bne_iff_ne,ne_eq,Zk,ZY,Zs,Za,Zy,Ψ37];exact hS _ rfl
     ·rw[if_neg (fun q=>q.elim (fun z=>z h0) hbig)] at hD
      have e1:((n*cn.toNat:Nat):Int)=(n:Int)*cn:=by rw[Yt,Int.toNat_of_nonneg hr.1]
      simp only[w0,c4,c5,hbig,yL,Qs,ze3,forall_eq,bne_iff_ne,ne_eq,ZH,Zs,Zl,Z5,Za,Zy,Ψ37];refine⟨by omega,by omega,Next.intro (i+1,L++[cn],n*cn.toNat,some false) (by simp only[e1];rfl) (by simp[zM];rfl) ⟨by simp only;omega,by simp[hL],by simp only;omega,hD⟩ (by simp only;omega)⟩
    ·have w0:(ce !=0)=true:=by simp[h0]
     rw[if_pos (.inl h0)] at hD;rw[<-hD] at hS;simp only[w0,Qs,zeS,bne_iff_ne,ne_eq,Zk,ZY,Zs,Za,Zy,Ψ37];exact hS _ rfl
   ·have d1: ¬(i:Int)<l.length:=by omega
    rw[ZC (by omega),wK] at hD;rw[<-hD] at hS;simp only[d1,Qs,Zk,ZY,Za,Zy,Ψ37];refine hS _ ?_;simp only[V.fz,V.fzL,V.nrm,V.nrmL,qB (vC L)];rfl
theorem c13 (l:List Dcm) (hl:sP l):Spec Tryz.prog 13 [lst 2 (l.map zV)] (fun v=>v=.tup [.int .i64 (cnts l).2.1,.int .i64 (cnts l).2.2]):=by
 refine Spec.of_awlP hf13 okf13 (by simp) fun S hS=>?_
 have g:=c37 l hl;generalize cnts l=c at g hS;simp only[Qs,Za,Ψ13];refine xI g ?_ (ha:=by simp only[Zm,Zq,zB,V.norm,C.norm,yG yU]<;>rfl);simp only[Qs,Zk,Zc,Ye,Za,Ψ13];exact hS _ rfl
theorem c81 (l:List Txt) (hw: ∀s∈l,s.length<=9223372036854775807) (hl:l.length<=9223372036854775807):Spec Tryz.prog 81 [lst 1 (zJ l)] (fun v=>v=.int .i64 (wI l)):=by
 refine Spec.of_awlS hf81 okf81 (by simp) fun S hS=>?_
 unfold wI at hS;by_cases h4:l.length>4
 ·rw[if_pos h4] at hS
  have c1:(l.length:Int)>4:=by omega
  simp only[yB,c1,Qs,Za,Ψ81];exact hS
 rw[if_neg h4] at hS;have c1: ¬(l.length:Int)>4:=by omega
 by_cases h0:l=[]
 ·rw[if_pos h0] at hS
  have c2:((l.length:Int)==0)=true:=by simp[h0]
  simp only[yB,c1,c2,Qs,Za,Ψ81];exact hS
 rw[if_neg h0] at hS;have c2:((l.length:Int)==0)=false:=by
  have:=Yh.2 h0;exact beq_false_of_ne (by omega)
 simp only[yB,c1,c2,Qs,Za,Ψ81];rw[uu f81l43.eq_1];refine yA (fun i:Nat=>[(0,lst 1 (zJ l)),(3,.int .i64 i)]) (fun _=>[]) (fun i=>i<=l.length/\(l.drop i).all vM=l.all vM) (fun i=>l.length-i) 0 rfl rfl ⟨ZA _,rfl⟩ ?_;rintro i ⟨hi,hD⟩;by_cases hlt:i<l.length
 ·have d1:(i:Int)<l.length:=by omega
  have c4:IntKind.i64.wrap ((i:Int)+1)=(i:Int)+1:=wrap_in (by omega) (by omega);have hat:=uI hlt;have g1:=zlX l[i] (hw _ (Zx hlt));rw[ZE hlt,Yz] at hD;generalize l[i]=s at hat g1 hD;simp only[d1,hat,yB,Qs,Za,Ψ81];refine zF g1 ?_ (ha:=by rfl);cases hv:vM s with
  |true=>
   rw[hv,ZJ] at hD;simp only[c4,Qs,Za,Ψ81];exact Next.intro (i+1) rfl rfl ⟨by omega,hD⟩ (by omega)
  |false=>
   rw[hv,ZP] at hD;rw[<-hD,if_neg (by simp)] at hS;simp only[Qs,Ψ81];exact hS
 ·have d1: ¬(i:Int)<l.length:=by omega
  rw[ZC (by omega)] at hD;rw[<-hD,Xf,if_pos rfl] at hS;clear hD;simp only[d1,yB,Qs,Za,Ψ81];rw[uu f81l26.eq_1];refine yA (fun i:Nat=>[(0,lst 1 (zJ l)),(4,.int .i64 i)]) (fun _=>[]) (fun i=>i<=l.length/\rZ l i=false) (fun i=>l.length-i) 0 rfl rfl ⟨ZA _,rfl⟩ ?_;rintro i ⟨hi,hD⟩;by_cases hlt:i<l.length
  ·have d1:(i:Int)<l.length:=by omega
   have c4:IntKind.i64.wrap ((i:Int)+1)=(i:Int)+1:=wrap_in (by omega) (by omega);have hgd:l.getD i []=l[i]:=by rw[Zh,Zg hlt];rfl
   have hsu:=cZ l i;have hat:=uI hlt;rw[hD,hgd,Ym] at hsu;simp only[d1,yB,Qs,Za,Ψ81];rw[uu f81l16.eq_1];refine yA (fun j:Nat=>[(0,lst 1 (zJ l)),(4,.int .i64 i),(5,.int .i64 j)]) (fun _=>[]) (fun j=>j<=i/\l[i] ∉ l.take j) (fun j=>i-j) 0 rfl rfl ⟨ZA _,by simp⟩ ?_;rintro j ⟨hj,hN⟩;by_cases hji:j<i
   ·have d2:(j:Int)<i:=by omega
    have d3:(j:Int)<l.length:=by omega
    have c5:IntKind.i64.wrap ((j:Int)+1)=(j:Int)+1:=wrap_in (by omega) (by omega);have hjl:j<l.length:=by omega
    have haj:=uI hjl;have htk:l.take (j+1)=l.take j++[l[j]]:=ZK hjl;have hin:l[j]∈l.take i:=by
     rw[List.mem_take_iff_getElem];exact⟨j,by omega,rfl⟩
    generalize l[i]=a at hat hsu hN;generalize l[j]=b at haj htk hin;by_cases hab:a=b
    ·have e1:(a==b)=true:=by simp[hab]
     rw[hab,decide_eq_true hin] at hsu;rw[if_pos (zhf l (by omega:i+1<=l.length) hsu)] at hS;simp only[d1,d2,d3,e1,hat,haj,yB,Qs,Za,Ψ81];exact hS
    ·have e1:(a==b)=false:=by simp[hab]
     simp only[d1,d2,d3,e1,hat,haj,c5,yB,Qs,Za,Ψ81];exact Next.intro (j+1) rfl rfl ⟨by omega,by rw[htk];simp[hN,hab]⟩ (by omega)
   ·have d2: ¬(j:Int)<i:=by omega
    obtain rfl:j=i:=by omega
    rw[decide_eq_false hN] at hsu;simp only[d2,c4,Qs,Zs,Za,Ψ81];exact Next.intro (j+1) rfl rfl ⟨by omega,hsu⟩ (by omega)
  ·have d1: ¬(i:Int)<l.length:=by omega
   obtain rfl:i=l.length:=by omega
   rw[if_neg (by rw[hD];simp)] at hS;simp only[d1,yB,Qs,Za,Ψ81];exact hS
end Go.Abs
