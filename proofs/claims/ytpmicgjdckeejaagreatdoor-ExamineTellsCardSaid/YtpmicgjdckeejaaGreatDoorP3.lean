/- A part of the proof; the last text states what is proved. -/
import Derived.Test.YtpmicgjdckeejaaGreatDoorP2
import Derived.Test.YtpmicgjdckeejaaGreatDoorProg
import Derived.IntWalk
import Derived.Shelf.GgClosure.StringsIndexFuncTop
import Derived.Lib.AtoiAll
import Derived.Lib.ItoaNum
import Derived.Deep.OwnRows
set_option linter.unusedVariables false
set_option linter.unusedSimpArgs false
set_option maxRecDepth 100000
set_option maxHeartbeats 8000000
open Bool renaming and_eq_true → Zp,eq_iff_iff → Ye,false_eq_true → Ya,not_eq_true' → YL,or_eq_true → Yi,true_and → ZC
open Eq renaming refl → ZR,trans → Z1
open Int renaming reduceLE → Yy,toNat_zero → Wb
open List renaming all_cons → Yz,drop_eq_getElem_cons → Zx,drop_eq_nil_of_le → ZE,flatten_cons → YR,getD_eq_getElem?_getD → Zm,getElem?_append_left → ZG,getElem?_append_right → ZI,getElem?_eq_getElem → Zk,getElem?_eq_some_iff → Zw,getElem?_map → ZD,length_append → Zr,length_cons → Zu,length_pos_iff → Yl,mem_cons_of_mem → ZH,mem_cons_self → Yv,mem_flatten → XX,mem_map → ZL,mem_of_getElem? → ZM
open Nat renaming add_mul → YB,reduceAdd → Zb,reduceBEq → Za,zero_add → Z4,zero_le → Zy
open Option renaming map_eq_some_iff → Zf
open Option.some renaming injEq → Zg
open Prod.mk renaming injEq → Xj
namespace Go.Abs
open Go.Proofs
abbrev LA:=List AI
def φ (n:Int):AX:=.v (.k (.c (.int .i64 n)))
def χ (b:Bool):AX:=.v (.k (.c (.bool b)))
def θ (d s:Nat):AI:=.mk none (.mov d (.t s))
def ψ (d n s:Nat):AI:=.mk none (.load d n false (.t s))
def ω (d n s:Nat):AI:=.mk none (.load d n true (.t s))
def Γ (d n s:Nat):AI:=.mk none (.faddr d n (.t s))
def Δ (d s n:Nat):AI:=.mk none (.extr d (.t s) n)
def Θ (d f a:Nat):AI:=.mk none (.call (some d) f [.t a])
def Ξ (d f a b:Nat):AI:=.mk none (.call (some d) f [.t a,.t b])
def Φ (n a b:Nat):AI:=.mk none (.store n (.t a) (.t b))
def Ψ (d n a b:Nat):AI:=.mk none (.iaddr d n (.t a) (.t b))
def Ω (d a:Nat):AI:=.mk none (.len d (.t a))
def zAA (d n a:Nat):AI:=.mk none (.box d n (.t a))
def zAB (d:Nat) (o:BinOp) (a b:Nat):AI:=.mk none (.bin d o (.t a) (.t b))
def zAE (g:Nat) (o:AOp):AI:=.mk (some (g,true)) o
def zAF (g:Nat) (o:AOp):AI:=.mk (some (g,false)) o
def η (o:AOp):AI:=.mk none o
def ζ (l:LA) (a:AQ):AQ:=.seq (.region l) a
theorem ξ {a b:Prop} (h:a) (g:b):a/\b:=⟨h,g⟩
theorem uu {a b:AQ} (h:a=b) (P ts os Q):awl P a Q ts os=awl P b Q ts os:=h▸rfl
theorem vv {α:Type} {a b:α} (h:a=b):a=b:=h
def f92:AQ:=(ζ [η (.mov 2 (χ false))] (ζ [θ 3 0,η (.bin 4 .neq (.t 3) (.v (.k (.c (.str []))))),θ 5 4,zAE 5 (.mov 6 (.t 0)),zAE 5 (.sidx 7 (.t 6) (φ 0)),zAE 5 (.call (some 8) 125 [(.t 7)]),η (.pick 9 (.t 5) (.t 8) (χ false)),θ 10 9,zAE 10 (.mov 11 (.t 0)),zAE 10 (.lenS 12 (.t 11)),zAE 10 (.bin 13 .leq (.t 12) (φ 20)),η (.pick 14 (.t 10) (.t 13) (χ false)),θ 15 14,zAE 15 (.mov 16 (.t 0)),zAE 15 (.call (some 17) 126 [(.t 16),(.v (.k (.c (.fn 127 []))))]),zAE 15 (.mov 18 (.t 0)),zAE 15 (.lenS 19 (.t 18)),zAE 15 (.bin 20 .eql (.t 17) (.t 19)),η (.pick 21 (.t 15) (.t 20) (χ false)),θ 2 21] .ret))
theorem hf92:zH Tryz.prog 92=some ⟨22,f92.erase,[(RX.t 2)]⟩:=by kernel_rfl
theorem okf92:f92.ok=true:=by kernel_rfl
def Υ92:=PLift.up (uu f92.eq_1)
theorem Ψ92:type_of% Υ92.1:=Υ92.1
def f125:AQ:=(ζ [η (.mov 2 (χ false))] (ζ [θ 3 0,η (.bin 4 .geq (.t 3) (.v (.k (.c (.int .u8 97))))),θ 5 4,zAE 5 (.mov 6 (.t 0)),zAE 5 (.bin 7 .leq (.t 6) (.v (.k (.c (.int .u8 122))))),η (.pick 8 (.t 5) (.t 7) (χ false)),θ 9 8,zAF 9 (.mov 10 (.t 0)),zAF 9 (.bin 11 .geq (.t 10) (.v (.k (.c (.int .u8 65))))),zAF 9 (.mov 12 (.t 11)),zAE 12 (.mov 13 (.t 0)),zAE 12 (.bin 14 .leq (.t 13) (.v (.k (.c (.int .u8 90))))),zAF 9 (.pick 15 (.t 12) (.t 14) (χ false)),η (.pick 16 (.t 9) (χ true) (.t 15)),θ 2 16] .ret))
theorem hf125:zH Tryz.prog 125=some ⟨17,f125.erase,[(RX.t 2)]⟩:=by kernel_rfl
theorem okf125:f125.ok=true:=by kernel_rfl
def Υ125:=PLift.up (uu f125.eq_1)
theorem Ψ125:type_of% Υ125.1:=Υ125.1
def f126l9:AQ:=.loop [0,1,5] [] (.seq (ζ [θ 6 5,θ 7 0,η (.lenS 8 (.t 7)),zAB 9 .lss 6 8,θ 10 9,zAE 10 (.mov 11 (.t 1)),zAE 10 (.mov 12 (.t 0)),zAE 10 (.mov 13 (.t 5)),zAE 10 (.sidx 14 (.t 12) (.t 13)),zAE 10 (.callv (some 15) (.t 11) [(.t 14)]),η (.pick 16 (.t 10) (.t 15) (χ false))] (.cond (.t 16) .skip (.exit 0))) (.block 1 (.region [θ 17 5,η (.bin 18 .add (.t 17) (φ 1)),θ 5 18])))
def f126:AQ:=(ζ [η (.mov 4 (φ 0))] (ζ [η (.mov 5 (φ 0))] (.seq (.block 0 f126l9) (ζ [θ 19 5,θ 4 19] .ret))))
theorem hf126:zH Tryz.prog 126=some ⟨20,f126.erase,[(RX.t 4)]⟩:=by kernel_rfl
theorem okf126:f126.ok=true:=by kernel_rfl
def Υ126:=PLift.up (uu f126.eq_1)
theorem Ψ126:type_of% Υ126.1:=Υ126.1
def f127:AQ:=(ζ [η (.mov 2 (χ false))] (ζ [θ 3 0,Θ 4 125 3,θ 5 4,zAF 5 (.mov 6 (.t 0)),zAF 5 (.call (some 7) 160 [(.t 6)]),η (.pick 8 (.t 5) (χ true) (.t 7)),θ 9 8,zAF 9 (.mov 10 (.t 0)),zAF 9 (.bin 11 .eql (.t 10) (.v (.k (.c (.int .u8 95))))),η (.pick 12 (.t 9) (χ true) (.t 11)),θ 2 12] .ret))
theorem hf127:zH Tryz.prog 127=some ⟨13,f127.erase,[(RX.t 2)]⟩:=by kernel_rfl
theorem okf127:f127.ok=true:=by kernel_rfl
def Υ127:=PLift.up (uu f127.eq_1)
theorem Ψ127:type_of% Υ127.1:=Υ127.1
def f160:AQ:=(ζ [η (.mov 2 (χ false))] (ζ [θ 3 0,η (.bin 4 .geq (.t 3) (.v (.k (.c (.int .u8 48))))),θ 5 4,zAE 5 (.mov 6 (.t 0)),zAE 5 (.bin 7 .leq (.t 6) (.v (.k (.c (.int .u8 57))))),η (.pick 8 (.t 5) (.t 7) (χ false)),θ 2 8] .ret))
theorem hf160:zH Tryz.prog 160=some ⟨9,f160.erase,[(RX.t 2)]⟩:=by kernel_rfl
theorem okf160:f160.ok=true:=by kernel_rfl
def Υ160:=PLift.up (uu f160.eq_1)
theorem Ψ160:type_of% Υ160.1:=Υ160.1
def f59:AQ:=(ζ [η (.mov 2 (χ false))] (ζ [θ 3 0,η (.bin 4 .neq (.t 3) (.v (.k (.c (.str []))))),θ 5 4,zAE 5 (.mov 6 (.t 0)),zAE 5 (.lenS 7 (.t 6)),zAE 5 (.bin 8 .leq (.t 7) (φ 20)),η (.pick 9 (.t 5) (.t 8) (χ false)),θ 10 9,zAE 10 (.mov 11 (.t 0)),zAE 10 (.call (some 12) 97 [(.t 11),(.v (.k (.c (.fn 98 []))))]),zAE 10 (.bin 13 .lss (.t 12) (φ 0)),η (.pick 14 (.t 10) (.t 13) (χ false)),θ 2 14] .ret))
theorem hf59:zH Tryz.prog 59=some ⟨15,f59.erase,[(RX.t 2)]⟩:=by kernel_rfl
theorem okf59:f59.ok=true:=by kernel_rfl
def Υ59:=PLift.up (uu f59.eq_1)
theorem Ψ59:type_of% Υ59.1:=Υ59.1
def f95l17:AQ:=.loop [3,19,20] [] (ζ [zAB 21 .lss 20 19] (.seq (.cond (.t 21) .skip (.exit 1)) (.seq (.block 2 (ζ [θ 22 20,θ 4 22] (.seq (.draw [θ 23 3,θ 24 4,η (.slice 25 1 (.t 23) none (some (.t 24))),θ 26 3,θ 27 4,Ψ 28 1 26 27,ψ 29 1 28,Ξ 30 130 25 29] [[],[],[0,1],[],[],[3,4],[5],[2,6]]) (.cond (.t 30) (ζ [η (.mov 2 (φ 5))] .ret) .skip)))) (.region [η (.bin 31 .add (.t 20) (φ 1)),θ 20 31]))))
def f95:AQ:=(ζ [zAA 1 109 0,η (.mov 2 (φ 0))] (.frz 1 (ζ [Γ 5 0 1,ψ 6 1 5,θ 3 6] (.seq (.block 0 (ζ [θ 8 3,Ω 9 8,η (.bin 10 .gtr (.t 9) (φ 4)),θ 7 10] (.cond (.t 7) (ζ [η (.mov 2 (φ 6))] .ret) (ζ [θ 12 3,Ω 13 12,η (.bin 14 .eql (.t 13) (φ 0)),θ 11 14] (.cond (.t 11) (ζ [η (.mov 2 (φ 4))] .ret) (ζ [θ 16 3,η (.call (some 17) 57 [(.t 16),(.v (.k (.c (.fn 129 []))))]),θ 15 17] (.cond (.t 15) (ζ [η (.mov 2 (φ 2))] .ret) .skip))))))) (.seq (ζ [θ 18 3,Ω 19 18,η (.mov 20 (φ 0))] (.block 1 f95l17)) (ζ [η (.mov 2 (φ 0))] .ret))))))
theorem hf95:zH Tryz.prog 95=some ⟨32,f95.erase,[(RX.t 2)]⟩:=by kernel_rfl
theorem okf95:f95.ok=true:=by kernel_rfl
def Υ95:=PLift.up (uu f95.eq_1)
theorem Ψ95:type_of% Υ95.1:=Υ95.1
def f129:AQ:=(ζ [η (.mov 2 (χ false))] (ζ [θ 3 0,Θ 4 59 3,η (.un 5 .not (.t 4)),θ 2 5] .ret))
theorem hf129:zH Tryz.prog 129=some ⟨6,f129.erase,[(RX.t 2)]⟩:=by kernel_rfl
theorem okf129:f129.ok=true:=by kernel_rfl
def Υ129:=PLift.up (uu f129.eq_1)
theorem Ψ129:type_of% Υ129.1:=Υ129.1
def f130:AQ:=(ζ [η (.mov 4 (χ false))] (ζ [θ 5 0,θ 6 1,Ξ 7 40 5 6,η (.bin 8 .geq (.t 7) (φ 0)),θ 4 8] .ret))
theorem hf130:zH Tryz.prog 130=some ⟨9,f130.erase,[(RX.t 4)]⟩:=by kernel_rfl
theorem okf130:f130.ok=true:=by kernel_rfl
def Υ130:=PLift.up (uu f130.eq_1)
theorem Ψ130:type_of% Υ130.1:=Υ130.1
def f96l17:AQ:=.loop [0,1,7,8] [] (ζ [zAB 9 .lss 8 7] (.seq (.cond (.t 9) .skip (.exit 0)) (.seq (.block 1 (ζ [θ 10 8,θ 5 10] (ζ [θ 11 1,θ 12 0,θ 13 5,Ψ 14 1 12 13,ψ 15 1 14,η (.callv (some 16) (.t 11) [(.t 15)])] (.cond (.t 16) (ζ [θ 17 5,θ 4 17] .ret) .skip)))) (.region [η (.bin 18 .add (.t 8) (φ 1)),θ 8 18]))))
def f96:AQ:=(ζ [η (.mov 4 (φ 0))] (.seq (ζ [θ 6 0,Ω 7 6,η (.mov 8 (φ 0))] (.block 0 f96l17)) (ζ [η (.mov 4 (.v (.k (.c (.int .i64 (-1))))))] .ret)))
theorem hf96:zH Tryz.prog 96=some ⟨19,f96.erase,[(RX.t 4)]⟩:=by kernel_rfl
theorem okf96:f96.ok=true:=by kernel_rfl
def Υ96:=PLift.up (uu f96.eq_1)
theorem Ψ96:type_of% Υ96.1:=Υ96.1
def f55l20:AQ:=.loop [1,17,18,19,42,43,44] [1] (ζ [zAB 45 .lss 44 43] (.seq (.cond (.t 45) .skip (.exit 3)) (.seq (.block 4 (ζ [Ψ 46 1 42 44,ω 47 1 46,η (.alloc 6 109 [(.list 0 (some true) [])]),Φ 1 6 47] (.frz 6 (ζ [ω 48 1 6,Θ 49 95 48,θ 7 49] (ζ [θ 50 7,η (.bin 51 .neq (.t 50) (φ 0))] (.cond (.t 51) (ζ [θ 52 7,θ 2 52] .ret) .skip)))))) (.region [η (.bin 53 .add (.t 44) (φ 1)),θ 44 53]))))
def f55l49:AQ:=.loop [1,17,18,19] [1] (ζ [zAB 20 .lss 19 18] (.seq (.cond (.t 20) .skip (.exit 0)) (.seq (.block 1 (ζ [θ 21 19,Ψ 22 2 17 19,ω 23 2 22,η (.alloc 4 107 [(.str []),(.list 0 (some true) [])]),θ 3 21,Φ 2 4 23] (.frz 4 (.seq (.block 2 (ζ [Γ 25 0 4,ψ 26 1 25,Θ 27 92 26,η (.un 28 .not (.t 27)),θ 24 28] (.cond (.t 24) (ζ [η (.mov 2 (φ 2))] .ret) (ζ [Γ 30 1 1,ψ 31 1 30,θ 32 3,η (.slice 33 2 (.t 31) none (some (.t 32))),η (.mkfn 34 94 [(.t 4)]),Ξ 35 93 33 34,θ 29 35] (.cond (.t 29) (ζ [η (.mov 2 (φ 5))] .ret) (ζ [Γ 37 1 4,ψ 38 1 37,Ω 39 38,η (.bin 40 .gtr (.t 39) (φ 8)),θ 36 40] (.cond (.t 36) (ζ [η (.mov 2 (φ 6))] .ret) .skip))))))) (ζ [Γ 41 1 4,ψ 42 1 41,Ω 43 42,η (.mov 44 (φ 0))] (.block 3 f55l20)))))) (.region [η (.bin 54 .add (.t 19) (φ 1)),θ 19 54]))))
def f55:AQ:=(ζ [zAA 1 58 0,η (.mov 2 (φ 0))] (.frz 1 (.seq (ζ [Γ 8 0 1,ψ 9 1 8,Θ 10 92 9,η (.un 11 .not (.t 10))] (.cond (.t 11) (ζ [η (.mov 2 (φ 2))] .ret) .skip)) (.seq (ζ [Γ 12 1 1,ψ 13 1 12,Ω 14 13,η (.bin 15 .gtr (.t 14) (φ 12))] (.cond (.t 15) (ζ [η (.mov 2 (φ 6))] .ret) .skip)) (.seq (ζ [Γ 16 1 1,ψ 17 1 16,Ω 18 17,η (.mov 19 (φ 0))] (.block 0 f55l49)) (ζ [η (.mov 2 (φ 0))] .ret))))))
theorem hf55:zH Tryz.prog 55=some ⟨55,f55.erase,[(RX.t 2)]⟩:=by kernel_rfl
theorem okf55:f55.ok=true:=by kernel_rfl
def Υ55:=PLift.up (uu f55.eq_1)
theorem Ψ55:type_of% Υ55.1:=Υ55.1
def f94:AQ:=(ζ [zAA 2 107 0,η (.mov 3 (χ false))] (.frz 2 (ζ [Γ 4 0 2,ψ 5 1 4,Γ 6 0 1,ψ 7 1 6,zAB 8 .eql 5 7,θ 3 8] .ret)))
theorem hf94:zH Tryz.prog 94=some ⟨9,f94.erase,[(RX.t 3)]⟩:=by kernel_rfl
theorem okf94:f94.ok=true:=by kernel_rfl
def Υ94:=PLift.up (uu f94.eq_1)
theorem Ψ94:type_of% Υ94.1:=Υ94.1
def f93:AQ:=(ζ [η (.mov 4 (χ false))] (ζ [θ 5 0,θ 6 1,Ξ 7 128 5 6,η (.bin 8 .geq (.t 7) (φ 0)),θ 4 8] .ret))
theorem hf93:zH Tryz.prog 93=some ⟨9,f93.erase,[(RX.t 4)]⟩:=by kernel_rfl
theorem okf93:f93.ok=true:=by kernel_rfl
def Υ93:=PLift.up (uu f93.eq_1)
theorem Ψ93:type_of% Υ93.1:=Υ93.1
def f128l17:AQ:=.loop [0,1,7,8] [] (ζ [zAB 9 .lss 8 7] (.seq (.cond (.t 9) .skip (.exit 0)) (.seq (.block 1 (ζ [θ 10 8,θ 5 10] (ζ [θ 11 1,θ 12 0,θ 13 5,Ψ 14 2 12 13,ω 15 2 14,η (.callv (some 16) (.t 11) [(.t 15)])] (.cond (.t 16) (ζ [θ 17 5,θ 4 17] .ret) .skip)))) (.region [η (.bin 18 .add (.t 8) (φ 1)),θ 8 18]))))
def f128:AQ:=(ζ [η (.mov 4 (φ 0))] (.seq (ζ [θ 6 0,Ω 7 6,η (.mov 8 (φ 0))] (.block 0 f128l17)) (ζ [η (.mov 4 (.v (.k (.c (.int .i64 (-1))))))] .ret)))
theorem hf128:zH Tryz.prog 128=some ⟨19,f128.erase,[(RX.t 4)]⟩:=by kernel_rfl
theorem okf128:f128.ok=true:=by kernel_rfl
def Υ128:=PLift.up (uu f128.eq_1)
theorem Ψ128:type_of% Υ128.1:=Υ128.1
def f57:AQ:=(ζ [η (.mov 4 (χ false))] (ζ [θ 5 0,θ 6 1,Ξ 7 96 5 6,η (.bin 8 .geq (.t 7) (φ 0)),θ 4 8] .ret))
theorem hf57:zH Tryz.prog 57=some ⟨9,f57.erase,[(RX.t 4)]⟩:=by kernel_rfl
theorem okf57:f57.ok=true:=by kernel_rfl
def Υ57:=PLift.up (uu f57.eq_1)
theorem Ψ57:type_of% Υ57.1:=Υ57.1
def f61l13:AQ:=.loop [3,7,8,9] [] (ζ [zAB 10 .lss 9 8] (.seq (.cond (.t 10) .skip (.exit 0)) (.seq (.block 1 (ζ [Ψ 11 1 7 9,ω 12 1 11,η (.alloc 5 109 [(.list 0 (some true) [])]),Φ 1 5 12] (.frz 5 (.region [θ 13 3,Γ 14 0 5,ψ 15 1 14,Ω 16 15,zAB 17 .mul 13 16,θ 3 17])))) (.region [η (.bin 18 .add (.t 9) (φ 1)),θ 9 18]))))
def f61:AQ:=(ζ [zAA 1 107 0,η (.mov 2 (φ 0))] (.frz 1 (ζ [η (.mov 3 (φ 1))] (.seq (ζ [Γ 6 1 1,ψ 7 1 6,Ω 8 7,η (.mov 9 (φ 0))] (.block 0 f61l13)) (ζ [θ 19 3,θ 2 19] .ret)))))
theorem hf61:zH Tryz.prog 61=some ⟨20,f61.erase,[(RX.t 2)]⟩:=by kernel_rfl
theorem okf61:f61.ok=true:=by kernel_rfl
def Υ61:=PLift.up (uu f61.eq_1)
theorem Ψ61:type_of% Υ61.1:=Υ61.1
def f77l19:AQ:=.loop [5,14,15,16] [] (ζ [zAB 17 .lss 16 15] (.seq (.cond (.t 17) .skip (.exit 0)) (.seq (.block 1 (ζ [Ψ 18 2 14 16,ω 19 2 18,η (.alloc 7 107 [(.str []),(.list 0 (some true) [])]),Φ 2 7 19] (.frz 7 (ζ [θ 20 5,ω 21 2 7,Θ 22 61 21,zAB 23 .mul 20 22,θ 5 23] (ζ [θ 24 5,η (.bin 25 .gtr (.t 24) (φ 4096))] (.cond (.t 25) (ζ [η (.mov 2 (φ 0)),η (.mov 3 (φ 6))] .ret) .skip)))))) (.region [η (.bin 26 .add (.t 16) (φ 1)),θ 16 26]))))
def f77:AQ:=(ζ [zAA 1 58 0,η (.mov 2 (φ 0)),η (.mov 3 (φ 0))] (.frz 1 (.seq (ζ [ω 8 2 1,Θ 9 55 8,θ 4 9] (ζ [θ 10 4,η (.bin 11 .neq (.t 10) (φ 0))] (.cond (.t 11) (ζ [θ 12 4,η (.mov 2 (φ 0)),θ 3 12] .ret) .skip))) (ζ [η (.mov 5 (φ 1))] (.seq (ζ [Γ 13 1 1,ψ 14 1 13,Ω 15 14,η (.mov 16 (φ 0))] (.block 0 f77l19)) (ζ [θ 27 5,θ 2 27,η (.mov 3 (φ 0))] .ret))))))
theorem hf77:zH Tryz.prog 77=some ⟨28,f77.erase,[(RX.t 2),(RX.t 3)]⟩:=by kernel_rfl
theorem okf77:f77.ok=true:=by kernel_rfl
def Υ77:=PLift.up (uu f77.eq_1)
theorem Ψ77:type_of% Υ77.1:=Υ77.1
def f155l15:AQ:=.loop [1,2,7,9,10] [2] (.seq (ζ [θ 92 10,θ 93 1,Ω 94 93,zAB 95 .lss 92 94,θ 96 95,zAE 96 (.mov 97 (.t 7)),η (.pick 98 (.t 96) (.t 97) (χ false))] (.cond (.t 98) .skip (.exit 4))) (.seq (.block 5 (.seq (.draw [θ 101 1,θ 102 9,Ψ 103 3 101 102,Γ 104 0 103,ψ 105 1 104,Γ 106 1 2,ψ 107 1 106,zAB 108 .eql 105 107,θ 109 108,zAE 109 (.mov 110 (.t 1)),zAE 109 (.mov 111 (.t 10)),zAE 109 (.iaddr 112 3 (.t 110) (.t 111)),zAE 109 (.faddr 113 0 (.t 112)),zAE 109 (.load 114 1 false (.t 113)),zAE 109 (.faddr 115 3 (.t 2)),zAE 109 (.load 116 1 false (.t 115)),zAE 109 (.bin 117 .eql (.t 114) (.t 116)),η (.pick 118 (.t 109) (.t 117) (χ false))] [[],[],[0,1],[2],[3],[],[5],[4,6],[7],[8],[8],[9,10,8],[11,8],[12,8],[8],[14,8],[13,15,8],[8,16]]) (.keep [1,2,7,9,10,118] [2] (.cond (.t 118) (.draw [θ 119 1,θ 120 9,Ψ 121 3 119 120,Γ 122 2 121,ψ 123 1 122,θ 124 1,θ 125 9,Ψ 126 3 124 125,ω 127 3 126,Γ 128 2 2,ψ 129 1 128,Ξ 130 123 127 129,Ψ 131 1 123 130,ψ 132 1 131,θ 133 1,θ 134 10,Ψ 135 3 133 134,Γ 136 2 135,ψ 137 1 136,θ 138 1,θ 139 10,Ψ 140 3 138 139,ω 141 3 140,Γ 142 4 2,ψ 143 1 142,Ξ 144 123 141 143,Ψ 145 1 137 144,ψ 146 1 145,zAB 147 .eql 132 146,θ 7 147] [[],[],[0,1],[2],[3],[],[],[5,6],[7],[],[9],[8,10],[4,11],[12],[],[],[14,15],[16],[17],[],[],[19,20],[21],[],[23],[22,24,11],[18,25],[26],[13,27],[28,25,0,1,2,3,4,5,6,7,8,9,10,11,12,13,14,15,16,17,18,19,20,21,22,23,24,25,26,27,28]]) .skip)))) (.region [θ 99 10,η (.bin 100 .add (.t 99) (φ 1)),θ 10 100])))
def f155l25:AQ:=.loop [1,2,7,9] [2] (.seq (ζ [θ 83 9,θ 84 1,Ω 85 84,zAB 86 .lss 83 85,θ 87 86,zAE 87 (.mov 88 (.t 7)),η (.pick 89 (.t 87) (.t 88) (χ false))] (.cond (.t 89) .skip (.exit 2))) (.seq (.block 3 (ζ [η (.mov 10 (φ 0))] (.block 4 f155l15))) (.region [θ 90 9,η (.bin 91 .add (.t 90) (φ 1)),θ 9 91])))
def f155r36:LA:=[θ 15 8,η (.bin 16 .add (.t 15) (φ 1)),θ 8 16]
def f155b40:AQ:=.seq (.draw [θ 39 1,θ 40 8,Ψ 41 3 39 40,Γ 42 0 41,ψ 43 1 42,Γ 44 1 2,ψ 45 1 44,zAB 46 .eql 43 45,θ 47 46,zAE 47 (.mov 48 (.t 1)),zAE 47 (.mov 49 (.t 8)),zAE 47 (.iaddr 50 3 (.t 48) (.t 49)),zAE 47 (.load 51 3 true (.t 50)),zAE 47 (.faddr 52 2 (.t 2)),zAE 47 (.load 53 1 false (.t 52)),zAE 47 (.call (some 54) 123 [(.t 51),(.t 53)]),zAE 47 (.bin 55 .lss (.t 54) (φ 0)),η (.pick 56 (.t 47) (.t 55) (χ false)),θ 57 56,zAF 57 (.mov 58 (.t 1)),zAF 57 (.mov 59 (.t 8)),zAF 57 (.iaddr 60 3 (.t 58) (.t 59)),zAF 57 (.faddr 61 0 (.t 60)),zAF 57 (.load 62 1 false (.t 61)),zAF 57 (.faddr 63 3 (.t 2)),zAF 57 (.load 64 1 false (.t 63)),zAF 57 (.bin 65 .eql (.t 62) (.t 64)),zAF 57 (.mov 66 (.t 65)),zAE 66 (.mov 67 (.t 1)),zAE 66 (.mov 68 (.t 8)),zAE 66 (.iaddr 69 3 (.t 67) (.t 68)),zAE 66 (.load 70 3 true (.t 69)),zAE 66 (.faddr 71 4 (.t 2)),zAE 66 (.load 72 1 false (.t 71)),zAE 66 (.call (some 73) 123 [(.t 70),(.t 72)]),zAE 66 (.bin 74 .lss (.t 73) (φ 0)),zAF 57 (.pick 75 (.t 66) (.t 74) (χ false)),η (.pick 76 (.t 57) (χ true) (.t 75))] [[],[],[0,1],[2],[3],[],[5],[4,6],[7],[8],[8],[9,10,8],[11,8],[8],[13,8],[12,14,8,8],[15,8],[8,16],[17,15],[18],[18],[19,20,18],[21,18],[22,18],[18],[24,18],[23,25,18],[26,18,18],[27],[27],[28,29,27],[30,27],[27],[32,27],[31,33,27,27],[34,27],[27,35,18],[18,36]]) (.keep [1,2,5,6,7,8,76] [2] (.cond (.t 76) (.region [η (.mov 7 (χ false))]) .skip))
def f155b42:AQ:=.seq (.draw [θ 28 6,θ 29 28,zAF 29 (.mov 30 (.t 1)),zAF 29 (.mov 31 (.t 8)),zAF 29 (.iaddr 32 3 (.t 30) (.t 31)),zAF 29 (.faddr 33 0 (.t 32)),zAF 29 (.load 34 1 false (.t 33)),zAF 29 (.faddr 35 3 (.t 2)),zAF 29 (.load 36 1 false (.t 35)),zAF 29 (.bin 37 .eql (.t 34) (.t 36)),η (.pick 38 (.t 29) (χ true) (.t 37)),θ 6 38] [[],[0],[1],[1],[2,3,1],[4,1],[5,1],[1],[7,1],[6,8,1],[1,9],[10,1,0,1,2,3,4,5,6,7,8,9,10]]) (.keep [1,2,5,6,7,8] [2] f155b40)
def f155l51:AQ:=.loop [1,2,5,6,7,8] [2] (.seq (ζ [θ 11 8,θ 12 1,Ω 13 12,zAB 14 .lss 11 13] (.cond (.t 14) .skip (.exit 0))) (.seq (.block 1 (.seq (.draw [θ 17 5,θ 18 17,zAF 18 (.mov 19 (.t 1)),zAF 18 (.mov 20 (.t 8)),zAF 18 (.iaddr 21 3 (.t 19) (.t 20)),zAF 18 (.faddr 22 0 (.t 21)),zAF 18 (.load 23 1 false (.t 22)),zAF 18 (.faddr 24 1 (.t 2)),zAF 18 (.load 25 1 false (.t 24)),zAF 18 (.bin 26 .eql (.t 23) (.t 25)),η (.pick 27 (.t 18) (χ true) (.t 26)),θ 5 27] [[],[0],[1],[1],[2,3,1],[4,1],[5,1],[1],[7,1],[6,8,1],[1,9],[10,1,0,1,2,3,4,5,6,7,8,9,10]]) (.keep [1,2,5,6,7,8] [2] f155b42))) (.region f155r36)))
def f155:AQ:=(ζ [zAA 2 46 0,η (.mov 4 (χ false))] (.frz 2 (ζ [η (.mov 5 (χ false))] (ζ [η (.mov 6 (χ false))] (ζ [η (.mov 7 (χ true))] (.seq (ζ [η (.mov 8 (φ 0))] (.block 0 f155l51)) (.seq (ζ [θ 77 5,η (.un 78 .not (.t 77)),θ 79 78,zAF 79 (.mov 80 (.t 6)),zAF 79 (.un 81 .not (.t 80)),η (.pick 82 (.t 79) (χ true) (.t 81))] (.cond (.t 82) (ζ [η (.mov 4 (χ true))] .ret) .skip)) (.seq (ζ [η (.mov 9 (φ 0))] (.block 2 f155l25)) (ζ [θ 148 7,θ 4 148] .ret)))))))))
theorem hf155:zH Tryz.prog 155=some ⟨149,f155.erase,[(RX.t 4)]⟩:=by kernel_rfl
theorem okf155:f155.ok=true:=by kernel_rfl
def Υ155:=PLift.up (uu f155.eq_1)
theorem Ψ155:type_of% Υ155.1:=Υ155.1
def f90r3:LA:=[θ 25 6,η (.bin 26 .add (.t 25) (φ 1)),θ 6 26]
def f90b16:AQ:=ζ [θ 62 7,θ 63 8,η (.minmax 64 false (.t 62) [(.t 63)]),θ 9 64] (ζ [θ 65 7,θ 66 8,η (.minmax 67 true (.t 65) [(.t 66)]),θ 10 67] (.seq (ζ [θ 68 9,η (.bin 69 .geq (.t 68) (φ 0)),θ 70 69,zAE 70 (.mov 71 (.t 9)),zAE 70 (.mov 72 (.t 10)),zAE 70 (.bin 73 .lss (.t 71) (.t 72)),η (.pick 74 (.t 70) (.t 73) (χ false))] (.cond (.t 74) (.region [θ 75 5,θ 76 6,θ 77 9,η (.build 78 [(.int .i64 0),(.int .i64 0)] [(0,(1,(.t 76))),(1,(1,(.t 77)))]),η (.bslice 79 64 2 [(.int .i64 0),(.int .i64 0)] 1 [(0,(.t 78))]),η (.append 80 64 2 16 (.t 75) (.t 79)),θ 5 80]) .skip)) (ζ [θ 81 10,η (.bin 82 .geq (.t 81) (φ 0))] (.cond (.t 82) (.region [θ 83 5,θ 84 6,θ 85 10,η (.build 86 [(.int .i64 0),(.int .i64 0)] [(0,(1,(.t 84))),(1,(1,(.t 85)))]),η (.bslice 87 64 2 [(.int .i64 0),(.int .i64 0)] 1 [(0,(.t 86))]),η (.append 88 64 2 16 (.t 83) (.t 87)),θ 5 88]) .skip))))
def f90l37:AQ:=.loop [1,2,5,6] [2,5,80,88] (.seq (ζ [θ 11 6,θ 12 1,Ω 13 12,zAB 14 .lss 11 13,θ 15 14,zAE 15 (.faddr 16 0 (.t 2)),zAE 15 (.load 17 1 false (.t 16)),zAE 15 (.bin 18 .gtr (.t 17) (φ 0)),η (.pick 19 (.t 15) (.t 18) (χ false)),θ 20 19,zAE 20 (.faddr 21 0 (.t 2)),zAE 20 (.load 22 1 false (.t 21)),zAE 20 (.bin 23 .lss (.t 22) (φ 5)),η (.pick 24 (.t 20) (.t 23) (χ false))] (.cond (.t 24) .skip (.exit 0))) (.seq (.block 1 (ζ [η (.mov 7 (.v (.k (.c (.int .i64 (-1))))))] (ζ [η (.mov 8 (.v (.k (.c (.int .i64 (-1))))))] (.seq (.seq (.draw [θ 27 1,θ 28 6,Ψ 29 3 27 28,Γ 30 0 29,ψ 31 1 30,Γ 32 1 2,ψ 33 1 32,zAB 34 .eql 31 33] [[],[],[0,1],[2],[3],[],[5],[4,6]]) (.cond (.t 34) (.draw [θ 35 1,θ 36 6,Ψ 37 3 35 36,ω 38 3 37,Γ 39 2 2,ψ 40 1 39,Ξ 41 123 38 40,θ 7 41] [[],[],[0,1],[2],[],[4],[3,5],[6,6,0,1,2,3,4,5,6]]) .skip)) (.seq (.seq (.draw [θ 42 1,θ 43 6,Ψ 44 3 42 43,Γ 45 0 44,ψ 46 1 45,Γ 47 3 2,ψ 48 1 47,zAB 49 .eql 46 48,θ 50 49,zAE 50 (.faddr 51 0 (.t 2)),zAE 50 (.load 52 1 false (.t 51)),zAE 50 (.bin 53 .eql (.t 52) (φ 3)),η (.pick 54 (.t 50) (.t 53) (χ false))] [[],[],[0,1],[2],[3],[],[5],[4,6],[7],[8],[9,8],[10,8],[8,11]]) (.cond (.t 54) (.draw [θ 55 1,θ 56 6,Ψ 57 3 55 56,ω 58 3 57,Γ 59 4 2,ψ 60 1 59,Ξ 61 123 58 60,θ 8 61] [[],[],[0,1],[2],[],[4],[3,5],[6,6,0,1,2,3,4,5,6]]) .skip)) (.keep [1,2,5,6,7,8] [2,5,80,88] f90b16)))))) (.region f90r3)))
def f90:AQ:=(ζ [zAA 2 46 0,η (.nilL 4 64 2)] (.frz 2 (ζ [η (.nilL 5 64 2)] (.seq (ζ [η (.mov 6 (φ 0))] (.block 0 f90l37)) (ζ [θ 89 5,θ 4 89] .ret)))))
theorem hf90:zH Tryz.prog 90=some ⟨90,f90.erase,[(RX.t 4)]⟩:=by kernel_rfl
theorem okf90:f90.ok=true:=by kernel_rfl
def Υ90:=PLift.up (uu f90.eq_1)
theorem Ψ90:type_of% Υ90.1:=Υ90.1
def f5l23:AQ:=.loop [0,1,7,12,14,16] [40,46,41000,41001,41002,47000,47001,47002] (.seq (ζ [θ 78 16,θ 79 12,Ω 80 79,zAB 81 .lss 78 80] (.cond (.t 81) .skip (.exit 0))) (.seq (.block 1 (.seq (.draw [θ 84 12,θ 85 16,Ψ 86 3 84 85,ω 87 3 86,θ 88 14,θ 89 16,Ψ 90 3 88 89,ω 91 3 90,Ξ 92 22 87 91,η (.un 93 .not (.t 92))] [[],[],[0,1],[2],[],[],[4,5],[6],[3,7],[8]]) (.cond (.t 93) (ζ [η (.mov 6 (χ false))] .ret) .skip))) (.region [θ 82 16,η (.bin 83 .add (.t 82) (φ 1)),θ 16 83])))
def f5:AQ:=(ζ [η (.mov 6 (χ false))] (ζ [η (.call (some 21) 8 []),θ 7 21] (.seq (ζ [θ 22 0,θ 23 1,Ξ 24 9 22 23,η (.un 25 .not (.t 24))] (.cond (.t 25) (ζ [θ 26 7,θ 6 26] .ret) .skip)) (ζ [θ 28 1,Θ 29 13 28,θ 27 29,Δ 30 27 0,Δ 31 27 1,θ 8 30,θ 9 31] (ζ [θ 33 1,Θ 34 18 33,θ 32 34,Δ 35 32 0,Δ 36 32 1,θ 10 35,θ 11 36] (ζ [θ 38 1,θ 39 2,Ξ 40 14 38 39,θ 37 40,Δ 41 37 0,Δ 42 37 1,θ 12 41,θ 13 42] (ζ [θ 44 1,θ 45 2,Ξ 46 19 44 45,θ 43 46,Δ 47 43 0,Δ 48 43 1,θ 14 47,θ 15 48] (.seq (ζ [θ 49 8,θ 50 10,zAB 51 .neq 49 50,θ 52 51,zAF 52 (.mov 53 (.t 9)),zAF 52 (.mov 54 (.t 11)),zAF 52 (.bin 55 .neq (.t 53) (.t 54)),η (.pick 56 (.t 52) (χ true) (.t 55)),θ 57 56,zAF 57 (.mov 58 (.t 13)),zAF 57 (.mov 59 (.t 15)),zAF 57 (.bin 60 .neq (.t 58) (.t 59)),η (.pick 61 (.t 57) (χ true) (.t 60)),θ 62 61,zAF 62 (.mov 63 (.t 12)),zAF 62 (.len 64 (.t 63)),zAF 62 (.mov 65 (.t 14)),zAF 62 (.len 66 (.t 65)),zAF 62 (.bin 67 .neq (.t 64) (.t 66)),η (.pick 68 (.t 62) (χ true) (.t 67)),θ 69 68,zAF 69 (.mov 70 (.t 0)),zAF 69 (.mov 71 (.t 1)),zAF 69 (.call (some 72) 20 [(.t 70),(.t 71)]),zAF 69 (.mov 73 (.t 0)),zAF 69 (.mov 74 (.t 1)),zAF 69 (.call (some 75) 21 [(.t 73),(.t 74)]),zAF 69 (.bin 76 .neq (.t 72) (.t 75)),η (.pick 77 (.t 69) (χ true) (.t 76))] (.cond (.t 77) (ζ [η (.mov 6 (χ false))] .ret) .skip)) (.seq (ζ [η (.mov 16 (φ 0))] (.block 0 f5l23)) (ζ [θ 95 0,θ 96 1,Ξ 97 10 95 96,θ 94 97,Δ 98 94 0,Δ 99 94 1,θ 17 98,θ 9 99] (ζ [θ 101 0,θ 102 1,Ξ 103 23 101 102,θ 100 103,Δ 104 100 0,Δ 105 100 1,θ 18 104,θ 11 105] (ζ [θ 107 0,θ 108 1,Ξ 109 12 107 108,θ 106 109,Δ 110 106 0,Δ 111 106 1,θ 19 110,θ 13 111] (ζ [θ 113 0,θ 114 1,Ξ 115 24 113 114,θ 112 115,Δ 116 112 0,Δ 117 112 1,θ 20 116,θ 15 117] (ζ [θ 118 7,θ 119 118,zAE 119 (.mov 120 (.t 17)),zAE 119 (.mov 121 (.t 18)),zAE 119 (.call (some 122) 25 [(.t 120),(.t 121)]),η (.pick 123 (.t 119) (.t 122) (χ false)),θ 124 123,zAE 124 (.mov 125 (.t 9)),zAE 124 (.mov 126 (.t 11)),zAE 124 (.bin 127 .eql (.t 125) (.t 126)),η (.pick 128 (.t 124) (.t 127) (χ false)),θ 129 128,zAE 129 (.mov 130 (.t 19)),zAE 129 (.mov 131 (.t 20)),zAE 129 (.bin 132 .eql (.t 130) (.t 131)),η (.pick 133 (.t 129) (.t 132) (χ false)),θ 134 133,zAE 134 (.mov 135 (.t 13)),zAE 134 (.mov 136 (.t 15)),zAE 134 (.bin 137 .eql (.t 135) (.t 136)),η (.pick 138 (.t 134) (.t 137) (χ false)),θ 6 138] .ret))))))))))))))
theorem hf5:zH Tryz.prog 5=some ⟨139,f5.erase,[(RX.t 6)]⟩:=by kernel_rfl
theorem okf5:f5.ok=true:=by kernel_rfl
def Υ5:=PLift.up (uu f5.eq_1)
theorem Ψ5:type_of% Υ5.1:=Υ5.1
def f207:AQ:=(ζ [zAA 3 9 1,η (.mov 4 (χ false))] (.frz 3 (ζ [θ 5 0,η (.mkfn 6 209 [(.t 3)]),Ξ 7 208 5 6,θ 4 7] .ret)))
theorem hf207:zH Tryz.prog 207=some ⟨8,f207.erase,[(RX.t 4)]⟩:=by kernel_rfl
theorem okf207:f207.ok=true:=by kernel_rfl
def Υ207:=PLift.up (uu f207.eq_1)
theorem Ψ207:type_of% Υ207.1:=Υ207.1
def f208:AQ:=(ζ [η (.mov 4 (χ false))] (ζ [θ 5 0,θ 6 1,Ξ 7 210 5 6,η (.bin 8 .geq (.t 7) (φ 0)),θ 4 8] .ret))
theorem hf208:zH Tryz.prog 208=some ⟨9,f208.erase,[(RX.t 4)]⟩:=by kernel_rfl
theorem okf208:f208.ok=true:=by kernel_rfl
def Υ208:=PLift.up (uu f208.eq_1)
theorem Ψ208:type_of% Υ208.1:=Υ208.1
def f209:AQ:=(ζ [zAA 2 53 0,η (.mov 3 (χ false))] (.frz 2 (ζ [Γ 4 0 2,ψ 5 1 4,ψ 6 1 1,zAB 7 .eql 5 6,θ 3 7] .ret)))
theorem hf209:zH Tryz.prog 209=some ⟨8,f209.erase,[(RX.t 3)]⟩:=by kernel_rfl
theorem okf209:f209.ok=true:=by kernel_rfl
def Υ209:=PLift.up (uu f209.eq_1)
theorem Ψ209:type_of% Υ209.1:=Υ209.1
def f210l17:AQ:=.loop [0,1,7,8] [] (ζ [zAB 9 .lss 8 7] (.seq (.cond (.t 9) .skip (.exit 0)) (.seq (.block 1 (ζ [θ 10 8,θ 5 10] (ζ [θ 11 1,θ 12 0,θ 13 5,Ψ 14 3 12 13,ω 15 3 14,η (.callv (some 16) (.t 11) [(.t 15)])] (.cond (.t 16) (ζ [θ 17 5,θ 4 17] .ret) .skip)))) (.region [η (.bin 18 .add (.t 8) (φ 1)),θ 8 18]))))
def f210:AQ:=(ζ [η (.mov 4 (φ 0))] (.seq (ζ [θ 6 0,Ω 7 6,η (.mov 8 (φ 0))] (.block 0 f210l17)) (ζ [η (.mov 4 (.v (.k (.c (.int .i64 (-1))))))] .ret)))
theorem hf210:zH Tryz.prog 210=some ⟨19,f210.erase,[(RX.t 4)]⟩:=by kernel_rfl
theorem okf210:f210.ok=true:=by kernel_rfl
def Υ210:=PLift.up (uu f210.eq_1)
theorem Ψ210:type_of% Υ210.1:=Υ210.1
def f40l17:AQ:=.loop [0,1,7,8] [] (ζ [zAB 9 .lss 8 7] (.seq (.cond (.t 9) .skip (.exit 0)) (.seq (.block 1 (ζ [θ 10 8,θ 5 10] (ζ [θ 11 1,θ 12 0,θ 13 5,Ψ 14 1 12 13,ψ 15 1 14,zAB 16 .eql 11 15] (.cond (.t 16) (ζ [θ 17 5,θ 4 17] .ret) .skip)))) (.region [η (.bin 18 .add (.t 8) (φ 1)),θ 8 18]))))
def f40:AQ:=(ζ [η (.mov 4 (φ 0))] (.seq (ζ [θ 6 0,Ω 7 6,η (.mov 8 (φ 0))] (.block 0 f40l17)) (ζ [η (.mov 4 (.v (.k (.c (.int .i64 (-1))))))] .ret)))
theorem hf40:zH Tryz.prog 40=some ⟨19,f40.erase,[(RX.t 4)]⟩:=by kernel_rfl
theorem okf40:f40.ok=true:=by kernel_rfl
def Υ40:=PLift.up (uu f40.eq_1)
theorem Ψ40:type_of% Υ40.1:=Υ40.1
def f215l25:AQ:=.loop [3,6,10,11,12] [3,6,42] (ζ [zAB 13 .lss 12 11] (.seq (.cond (.t 13) .skip (.exit 0)) (.seq (.block 1 (ζ [Ψ 14 3 10 12,ω 15 3 14,η (.alloc 8 53 [(.str []),(.list 0 (some true) []),(.list 0 (some true) [])]),Φ 3 8 15] (.frz 8 (.seq (ζ [Γ 16 0 8,ψ 17 1 16,Γ 18 0 3,ψ 19 1 18,zAB 20 .neq 17 19] (.cond (.t 20) (.exit 1) .skip)) (ζ [Γ 21 1 8,ψ 22 1 21,Γ 23 1 3,ψ 24 1 23,Ξ 25 40 22 24,θ 9 25] (.seq (ζ [θ 26 9,η (.bin 27 .lss (.t 26) (φ 0)),θ 28 27,zAF 28 (.mov 29 (.t 9)),zAF 28 (.faddr 30 2 (.t 8)),zAF 28 (.load 31 1 false (.t 30)),zAF 28 (.len 32 (.t 31)),zAF 28 (.bin 33 .geq (.t 29) (.t 32)),η (.pick 34 (.t 28) (χ true) (.t 33))] (.cond (.t 34) (ζ [η (.nilL 4 9 1),η (.mov 5 (χ false))] .ret) .skip)) (.region [θ 35 6,Γ 36 2 8,ψ 37 1 36,θ 38 9,Ψ 39 1 37 38,ψ 40 1 39,η (.bslice 41 9 1 [(.str [])] 1 [(0,(.t 40))]),η (.append 42 9 1 16 (.t 35) (.t 41)),θ 6 42]))))))) (.region [η (.bin 43 .add (.t 12) (φ 1)),θ 12 43]))))
def f215:AQ:=(ζ [zAA 3 163 1,η (.nilL 4 9 1),η (.mov 5 (χ false))] (.frz 3 (ζ [η (.nilL 6 9 1)] (.seq (ζ [θ 10 0,Ω 11 10,η (.mov 12 (φ 0))] (.block 0 f215l25)) (ζ [θ 44 6,θ 4 44,η (.mov 5 (χ true))] .ret)))))
theorem hf215:zH Tryz.prog 215=some ⟨45,f215.erase,[(RX.t 4),(RX.t 5)]⟩:=by kernel_rfl
theorem okf215:f215.ok=true:=by kernel_rfl
def Υ215:=PLift.up (uu f215.eq_1)
theorem Ψ215:type_of% Υ215.1:=Υ215.1
def f204:AQ:=(ζ [zAA 2 165 0,η (.mov 4 (χ false))] (.frz 2 (ζ [θ 5 1,Γ 6 0 2,ψ 7 1 6,Ξ 8 207 5 7,θ 4 8] .ret)))
theorem hf204:zH Tryz.prog 204=some ⟨9,f204.erase,[(RX.t 4)]⟩:=by kernel_rfl
theorem okf204:f204.ok=true:=by kernel_rfl
def Υ204:=PLift.up (uu f204.eq_1)
theorem Ψ204:type_of% Υ204.1:=Υ204.1
def f205:AQ:=(ζ [zAA 1 165 0,η (.mov 2 (χ false))] (.frz 1 (ζ [Γ 3 0 1,ψ 4 1 3,Θ 5 92 4,θ 2 5] .ret)))
theorem hf205:zH Tryz.prog 205=some ⟨6,f205.erase,[(RX.t 2)]⟩:=by kernel_rfl
theorem okf205:f205.ok=true:=by kernel_rfl
def Υ205:=PLift.up (uu f205.eq_1)
theorem Ψ205:type_of% Υ205.1:=Υ205.1
def f206:AQ:=(ζ [zAA 1 165 0,η (.mov 2 (.v (.k (.c (.str [])))))] (.frz 1 (ζ [Γ 3 0 1,ψ 4 1 3,η (.bin 5 .add (.v (.k (.c (.str [110,101,101,100,32])))) (.t 4)),η (.bin 6 .add (.t 5) (.v (.k (.c (.str [32,59]))))),θ 2 6] .ret)))
theorem hf206:zH Tryz.prog 206=some ⟨7,f206.erase,[(RX.t 2)]⟩:=by kernel_rfl
theorem okf206:f206.ok=true:=by kernel_rfl
def Υ206:=PLift.up (uu f206.eq_1)
theorem Ψ206:type_of% Υ206.1:=Υ206.1
def f203:AQ:=(ζ [zAA 1 165 0,η (.alloc 2 46 [(.int .i64 0),(.str []),(.str []),(.str []),(.str []),(.str []),(.int .i64 0),(.int .i64 0)])] (.frz 1 (ζ [Γ 3 0 1,ψ 4 1 3,η (.build 5 [(.int .i64 0),(.str []),(.str []),(.str []),(.str []),(.str []),(.int .i64 0),(.int .i64 0)] [(0,(1,(φ 0))),(1,(1,(.t 4)))]),Φ 8 2 5] .ret)))
theorem hf203:zH Tryz.prog 203=some ⟨6,f203.erase,[(RX.cell 2 8 true)]⟩:=by kernel_rfl
theorem okf203:f203.ok=true:=by kernel_rfl
def Υ203:=PLift.up (uu f203.eq_1)
theorem Ψ203:type_of% Υ203.1:=Υ203.1
def f201:AQ:=(ζ [zAA 1 163 0,η (.mov 2 (χ false))] (.frz 1 (ζ [Γ 3 0 1,ψ 4 1 3,Θ 5 92 4,θ 6 5,zAE 6 (.faddr 7 1 (.t 1)),zAE 6 (.load 8 1 false (.t 7)),zAE 6 (.call (some 9) 92 [(.t 8)]),η (.pick 10 (.t 6) (.t 9) (χ false)),θ 2 10] .ret)))
theorem hf201:zH Tryz.prog 201=some ⟨11,f201.erase,[(RX.t 2)]⟩:=by kernel_rfl
theorem okf201:f201.ok=true:=by kernel_rfl
def Υ201:=PLift.up (uu f201.eq_1)
theorem Ψ201:type_of% Υ201.1:=Υ201.1
def f202:AQ:=(ζ [zAA 1 163 0,η (.mov 2 (.v (.k (.c (.str [])))))] (.frz 1 (ζ [Γ 3 0 1,ψ 4 1 3,η (.bin 5 .add (.t 4) (.v (.k (.c (.str [32,46,32]))))),Γ 6 1 1,ψ 7 1 6,zAB 8 .add 5 7,θ 2 8] .ret)))
theorem hf202:zH Tryz.prog 202=some ⟨9,f202.erase,[(RX.t 2)]⟩:=by kernel_rfl
theorem okf202:f202.ok=true:=by kernel_rfl
def Υ202:=PLift.up (uu f202.eq_1)
theorem Ψ202:type_of% Υ202.1:=Υ202.1
def f211:AQ:=(ζ [zAA 1 167 0,η (.alloc 2 46 [(.int .i64 0),(.str []),(.str []),(.str []),(.str []),(.str []),(.int .i64 0),(.int .i64 0)])] (.frz 1 (ζ [Γ 3 0 1,Γ 4 0 3,ψ 5 1 4,Γ 6 0 1,Γ 7 1 6,ψ 8 1 7,Γ 9 2 1,ψ 10 1 9,η (.build 11 [(.int .i64 0),(.str []),(.str []),(.str []),(.str []),(.str []),(.int .i64 0),(.int .i64 0)] [(0,(1,(φ 1))),(1,(1,(.t 5))),(2,(1,(.t 8))),(5,(1,(.t 10)))]),Φ 8 2 11] .ret)))
theorem hf211:zH Tryz.prog 211=some ⟨12,f211.erase,[(RX.cell 2 8 true)]⟩:=by kernel_rfl
theorem okf211:f211.ok=true:=by kernel_rfl
def Υ211:=PLift.up (uu f211.eq_1)
theorem Ψ211:type_of% Υ211.1:=Υ211.1
def f212:AQ:=(ζ [zAA 2 167 0,η (.mov 4 (χ false))] (.frz 2 (ζ [θ 8 1,Γ 9 0 2,ω 10 2 9,Ξ 11 215 8 10,θ 7 11,Δ 12 7 0,Δ 13 7 1,θ 5 12,θ 6 13] (ζ [θ 14 6,θ 15 14,zAE 15 (.mov 16 (.t 5)),zAE 15 (.mkfn 17 216 [(.t 2)]),zAE 15 (.call (some 18) 57 [(.t 16),(.t 17)]),zAE 15 (.un 19 .not (.t 18)),η (.pick 20 (.t 15) (.t 19) (χ false)),θ 4 20] .ret))))
theorem hf212:zH Tryz.prog 212=some ⟨21,f212.erase,[(RX.t 4)]⟩:=by kernel_rfl
theorem okf212:f212.ok=true:=by kernel_rfl
def Υ212:=PLift.up (uu f212.eq_1)
theorem Ψ212:type_of% Υ212.1:=Υ212.1
def f213:AQ:=(ζ [zAA 1 167 0,η (.mov 2 (χ false))] (.frz 1 (ζ [Γ 6 2 1,ψ 7 1 6,Θ 8 217 7,θ 5 8,Δ 9 5 0,Δ 10 5 1,θ 3 9,θ 4 10] (ζ [θ 11 4,θ 12 11,zAE 12 (.faddr 13 0 (.t 1)),zAE 12 (.load 14 2 true (.t 13)),zAE 12 (.call (some 15) 201 [(.t 14)]),η (.pick 16 (.t 12) (.t 15) (χ false)),θ 2 16] .ret))))
theorem hf213:zH Tryz.prog 213=some ⟨17,f213.erase,[(RX.t 2)]⟩:=by kernel_rfl
theorem okf213:f213.ok=true:=by kernel_rfl
def Υ213:=PLift.up (uu f213.eq_1)
theorem Ψ213:type_of% Υ213.1:=Υ213.1
def f214:AQ:=(ζ [zAA 1 167 0,η (.mov 2 (.v (.k (.c (.str [])))))] (.frz 1 (ζ [Γ 6 2 1,ψ 7 1 6,Θ 8 217 7,θ 5 8,Δ 9 5 0,Δ 10 5 1,θ 3 9,θ 4 10] (ζ [Γ 11 0 1,ω 12 2 11,Θ 13 202 12,η (.bin 14 .add (.v (.k (.c (.str [102,105,101,108,100,32])))) (.t 13)),η (.bin 15 .add (.t 14) (.v (.k (.c (.str [32,105,115,32]))))),θ 16 3,zAB 17 .add 15 16,η (.bin 18 .add (.t 17) (.v (.k (.c (.str [32,59]))))),θ 2 18] .ret))))
theorem hf214:zH Tryz.prog 214=some ⟨19,f214.erase,[(RX.t 2)]⟩:=by kernel_rfl
theorem okf214:f214.ok=true:=by kernel_rfl
def Υ214:=PLift.up (uu f214.eq_1)
theorem Ψ214:type_of% Υ214.1:=Υ214.1
def f216:AQ:=(ζ [η (.mov 3 (χ false))] (ζ [θ 4 0,Γ 5 2 1,ψ 6 1 5,zAB 7 .neq 4 6,θ 3 7] .ret))
theorem hf216:zH Tryz.prog 216=some ⟨8,f216.erase,[(RX.t 3)]⟩:=by kernel_rfl
theorem okf216:f216.ok=true:=by kernel_rfl
def Υ216:=PLift.up (uu f216.eq_1)
theorem Ψ216:type_of% Υ216.1:=Υ216.1
def f221:AQ:=(ζ [zAA 1 169 0,η (.alloc 2 46 [(.int .i64 0),(.str []),(.str []),(.str []),(.str []),(.str []),(.int .i64 0),(.int .i64 0)])] (.frz 1 (ζ [Γ 3 0 1,Γ 4 0 3,ψ 5 1 4,Γ 6 0 1,Γ 7 1 6,ψ 8 1 7,Γ 9 2 1,Γ 10 0 9,ψ 11 1 10,Γ 12 2 1,Γ 13 1 12,ψ 14 1 13,η (.build 15 [(.int .i64 0),(.str []),(.str []),(.str []),(.str []),(.str []),(.int .i64 0),(.int .i64 0)] [(0,(1,(φ 3))),(1,(1,(.t 5))),(2,(1,(.t 8))),(3,(1,(.t 11))),(4,(1,(.t 14)))]),Φ 8 2 15] .ret)))
theorem hf221:zH Tryz.prog 221=some ⟨16,f221.erase,[(RX.cell 2 8 true)]⟩:=by kernel_rfl
theorem okf221:f221.ok=true:=by kernel_rfl
def Υ221:=PLift.up (uu f221.eq_1)
theorem Ψ221:type_of% Υ221.1:=Υ221.1
def f223:AQ:=(ζ [zAA 1 169 0,η (.mov 2 (χ false))] (.frz 1 (ζ [Γ 3 0 1,ω 4 2 3,Θ 5 201 4,θ 6 5,zAE 6 (.faddr 7 2 (.t 1)),zAE 6 (.load 8 2 true (.t 7)),zAE 6 (.call (some 9) 201 [(.t 8)]),η (.pick 10 (.t 6) (.t 9) (χ false)),θ 2 10] .ret)))
theorem hf223:zH Tryz.prog 223=some ⟨11,f223.erase,[(RX.t 2)]⟩:=by kernel_rfl
theorem okf223:f223.ok=true:=by kernel_rfl
def Υ223:=PLift.up (uu f223.eq_1)
theorem Ψ223:type_of% Υ223.1:=Υ223.1
def f224:AQ:=(ζ [zAA 1 169 0,η (.mov 2 (.v (.k (.c (.str [])))))] (.frz 1 (.seq (.draw [Γ 3 0 1,ω 4 2 3,Θ 5 202 4,η (.bin 6 .add (.v (.k (.c (.str [102,105,101,108,100,32])))) (.t 5)),η (.bin 7 .add (.t 6) (.v (.k (.c (.str [32,115,97,109,101,32]))))),Γ 8 2 1,ω 9 2 8,Θ 10 202 9,zAB 11 .add 7 10,η (.bin 12 .add (.t 11) (.v (.k (.c (.str [32,59]))))),θ 2 12] [[],[0],[1],[2],[3],[],[5],[6,2],[4,7],[8],[9,7,0,1,2,3,4,5,6,7,8,9]]) .ret)))
theorem hf224:zH Tryz.prog 224=some ⟨13,f224.erase,[(RX.t 2)]⟩:=by kernel_rfl
theorem okf224:f224.ok=true:=by kernel_rfl
def Υ224:=PLift.up (uu f224.eq_1)
theorem Ψ224:type_of% Υ224.1:=Υ224.1
def f225:AQ:=(ζ [η (.mov 3 (χ false))] (ζ [θ 4 0,ψ 5 1 1,η (.iaddr 6 1 (.t 5) (φ 0)),ψ 7 1 6,zAB 8 .neq 4 7,θ 3 8] .ret))
theorem hf225:zH Tryz.prog 225=some ⟨9,f225.erase,[(RX.t 3)]⟩:=by kernel_rfl
theorem okf225:f225.ok=true:=by kernel_rfl
def Υ225:=PLift.up (uu f225.eq_1)
theorem Ψ225:type_of% Υ225.1:=Υ225.1
def f226:AQ:=(ζ [zAA 1 171 0,η (.alloc 2 46 [(.int .i64 0),(.str []),(.str []),(.str []),(.str []),(.str []),(.int .i64 0),(.int .i64 0)])] (.frz 1 (ζ [Γ 4 0 1,Γ 5 0 4,ψ 6 1 5,Γ 7 0 1,Γ 8 1 7,ψ 9 1 8,Γ 10 2 1,ψ 11 1 10,Γ 12 3 1,ψ 13 1 12,η (.build 14 [(.int .i64 0),(.str []),(.str []),(.str []),(.str []),(.str []),(.int .i64 0),(.int .i64 0)] [(0,(1,(φ 2))),(1,(1,(.t 6))),(2,(1,(.t 9))),(6,(1,(.t 11))),(7,(1,(.t 13)))]),η (.alloc 3 46 [(.int .i64 0),(.str []),(.str []),(.str []),(.str []),(.str []),(.int .i64 0),(.int .i64 0)]),Φ 8 3 14] (.seq (ζ [Γ 15 4 1,ψ 16 1 15] (.cond (.t 16) (.region [Γ 17 0 3,η (.store 1 (.t 17) (φ 4))]) .skip)) (ζ [ω 18 8 3,Φ 8 2 18] .ret)))))
theorem hf226:zH Tryz.prog 226=some ⟨19,f226.erase,[(RX.cell 2 8 true)]⟩:=by kernel_rfl
theorem okf226:f226.ok=true:=by kernel_rfl
def Υ226:=PLift.up (uu f226.eq_1)
theorem Ψ226:type_of% Υ226.1:=Υ226.1
def f227l21:AQ:=.loop [2,6,7,19,20,21] [2,16,17000,17001,17002] (ζ [zAB 22 .lss 21 20] (.seq (.cond (.t 22) .skip (.exit 0)) (.seq (.block 1 (ζ [Ψ 23 1 19 21,ψ 24 1 23,θ 9 24] (ζ [θ 26 9,Θ 27 230 26,θ 25 27,Δ 28 25 0,Δ 29 25 1,θ 10 28,θ 11 29] (.seq (ζ [θ 30 11,η (.un 31 .not (.t 30)),θ 32 31,zAF 32 (.faddr 33 4 (.t 2)),zAF 32 (.load 34 1 false (.t 33)),zAF 32 (.un 35 .not (.t 34)),zAF 32 (.mov 36 (.t 35)),zAE 36 (.mov 37 (.t 10)),zAE 36 (.faddr 38 2 (.t 2)),zAE 36 (.load 39 1 false (.t 38)),zAE 36 (.bin 40 .lss (.t 37) (.t 39)),zAE 36 (.mov 41 (.t 40)),zAF 41 (.mov 42 (.t 10)),zAF 41 (.faddr 43 3 (.t 2)),zAF 41 (.load 44 1 false (.t 43)),zAF 41 (.bin 45 .gtr (.t 42) (.t 44)),zAE 36 (.pick 46 (.t 41) (χ true) (.t 45)),zAF 32 (.pick 47 (.t 36) (.t 46) (χ false)),η (.pick 48 (.t 32) (χ true) (.t 47))] (.cond (.t 48) (ζ [η (.mov 4 (χ false))] .ret) .skip)) (.region [θ 49 7,θ 50 10,zAB 51 .add 49 50,θ 7 51]))))) (.region [η (.bin 52 .add (.t 21) (φ 1)),θ 21 52]))))
def f227:AQ:=(ζ [zAA 2 171 0,η (.mov 4 (χ false))] (.frz 2 (ζ [θ 13 1,Γ 14 0 2,ω 15 2 14,Ξ 16 215 13 15,θ 12 16,Δ 17 12 0,Δ 18 12 1,θ 5 17,θ 6 18] (ζ [η (.mov 7 (φ 0))] (.seq (ζ [θ 19 5,Ω 20 19,η (.mov 21 (φ 0))] (.block 0 f227l21)) (ζ [θ 53 6,θ 54 53,zAE 54 (.faddr 55 4 (.t 2)),zAE 54 (.load 56 1 false (.t 55)),zAE 54 (.un 57 .not (.t 56)),zAE 54 (.mov 58 (.t 57)),zAF 58 (.mov 59 (.t 7)),zAF 58 (.faddr 60 2 (.t 2)),zAF 58 (.load 61 1 false (.t 60)),zAF 58 (.bin 62 .geq (.t 59) (.t 61)),zAF 58 (.mov 63 (.t 62)),zAE 63 (.mov 64 (.t 7)),zAE 63 (.faddr 65 3 (.t 2)),zAE 63 (.load 66 1 false (.t 65)),zAE 63 (.bin 67 .leq (.t 64) (.t 66)),zAF 58 (.pick 68 (.t 63) (.t 67) (χ false)),zAE 54 (.pick 69 (.t 58) (χ true) (.t 68)),η (.pick 70 (.t 54) (.t 69) (χ false)),θ 4 70] .ret))))))
theorem hf227:zH Tryz.prog 227=some ⟨71,f227.erase,[(RX.t 4)]⟩:=by kernel_rfl
theorem okf227:f227.ok=true:=by kernel_rfl
def Υ227:=PLift.up (uu f227.eq_1)
theorem Ψ227:type_of% Υ227.1:=Υ227.1
def f228:AQ:=(ζ [zAA 1 171 0,η (.mov 2 (χ false))] (.frz 1 (ζ [Γ 3 0 1,ω 4 2 3,Θ 5 201 4,θ 6 5,zAE 6 (.faddr 7 2 (.t 1)),zAE 6 (.load 8 1 false (.t 7)),zAE 6 (.bin 9 .geq (.t 8) (φ 0)),η (.pick 10 (.t 6) (.t 9) (χ false)),θ 11 10,zAE 11 (.faddr 12 2 (.t 1)),zAE 11 (.load 13 1 false (.t 12)),zAE 11 (.faddr 14 3 (.t 1)),zAE 11 (.load 15 1 false (.t 14)),zAE 11 (.bin 16 .leq (.t 13) (.t 15)),η (.pick 17 (.t 11) (.t 16) (χ false)),θ 18 17,zAE 18 (.faddr 19 3 (.t 1)),zAE 18 (.load 20 1 false (.t 19)),zAE 18 (.bin 21 .leq (.t 20) (φ 1099511627776)),η (.pick 22 (.t 18) (.t 21) (χ false)),θ 2 22] .ret)))
theorem hf228:zH Tryz.prog 228=some ⟨23,f228.erase,[(RX.t 2)]⟩:=by kernel_rfl
theorem okf228:f228.ok=true:=by kernel_rfl
def Υ228:=PLift.up (uu f228.eq_1)
theorem Ψ228:type_of% Υ228.1:=Υ228.1
def f230l19:AQ:=.loop [0,4,30,31] [] (ζ [zAB 32 .lss 31 30] (.seq (.cond (.t 32) .skip (.exit 0)) (.seq (.block 1 (ζ [θ 33 31,θ 5 33] (.region [θ 34 4,η (.bin 35 .mul (φ 10) (.t 34)),θ 36 0,θ 37 5,η (.sidx 38 (.t 36) (.t 37)),η (.bin 39 .sub (.t 38) (.v (.k (.c (.int .u8 48))))),η (.conv 40 .i64 (.t 39)),zAB 41 .add 35 40,θ 4 41]))) (.region [η (.bin 42 .add (.t 31) (φ 1)),θ 31 42]))))
def f230:AQ:=(ζ [η (.mov 2 (φ 0)),η (.mov 3 (χ false))] (.seq (ζ [θ 6 0,η (.bin 7 .eql (.t 6) (.v (.k (.c (.str []))))),θ 8 7,zAF 8 (.mov 9 (.t 0)),zAF 8 (.call (some 10) 126 [(.t 9),(.v (.k (.c (.fn 160 []))))]),zAF 8 (.mov 11 (.t 0)),zAF 8 (.lenS 12 (.t 11)),zAF 8 (.bin 13 .neq (.t 10) (.t 12)),η (.pick 14 (.t 8) (χ true) (.t 13)),θ 15 14,zAF 15 (.mov 16 (.t 0)),zAF 15 (.sidx 17 (.t 16) (φ 0)),zAF 15 (.bin 18 .eql (.t 17) (.v (.k (.c (.int .u8 48))))),zAF 15 (.mov 19 (.t 18)),zAE 19 (.mov 20 (.t 0)),zAE 19 (.bin 21 .neq (.t 20) (.v (.k (.c (.str [48]))))),zAF 15 (.pick 22 (.t 19) (.t 21) (χ false)),η (.pick 23 (.t 15) (χ true) (.t 22)),θ 24 23,zAF 24 (.mov 25 (.t 0)),zAF 24 (.lenS 26 (.t 25)),zAF 24 (.bin 27 .gtr (.t 26) (φ 13)),η (.pick 28 (.t 24) (χ true) (.t 27))] (.cond (.t 28) (ζ [η (.mov 2 (φ 0)),η (.mov 3 (χ false))] .ret) .skip)) (ζ [η (.mov 4 (φ 0))] (.seq (ζ [θ 29 0,η (.lenS 30 (.t 29)),η (.mov 31 (φ 0))] (.block 0 f230l19)) (.seq (ζ [θ 43 4,η (.bin 44 .gtr (.t 43) (φ 1099511627776))] (.cond (.t 44) (ζ [η (.mov 2 (φ 0)),η (.mov 3 (χ false))] .ret) .skip)) (ζ [θ 45 4,θ 2 45,η (.mov 3 (χ true))] .ret))))))
theorem hf230:zH Tryz.prog 230=some ⟨46,f230.erase,[(RX.t 2),(RX.t 3)]⟩:=by kernel_rfl
theorem okf230:f230.ok=true:=by kernel_rfl
def Υ230:=PLift.up (uu f230.eq_1)
theorem Ψ230:type_of% Υ230.1:=Υ230.1
def f217:AQ:=(ζ [η (.mov 2 (.v (.k (.c (.str []))))),η (.mov 3 (χ false))] (.seq (ζ [θ 4 0,η (.lenS 5 (.t 4)),η (.bin 6 .gtr (.t 5) (φ 400)),θ 7 6,zAF 7 (.mov 8 (.t 0)),zAF 7 (.call (some 9) 126 [(.t 8),(.v (.k (.c (.fn 218 []))))]),zAF 7 (.mov 10 (.t 0)),zAF 7 (.lenS 11 (.t 10)),zAF 7 (.bin 12 .neq (.t 9) (.t 11)),η (.pick 13 (.t 7) (χ true) (.t 12))] (.cond (.t 13) (ζ [η (.mov 2 (.v (.k (.c (.str []))))),η (.mov 3 (χ false))] .ret) .skip)) (ζ [θ 14 0,Θ 15 219 14,θ 2 15,η (.mov 3 (χ true))] .ret)))
theorem hf217:zH Tryz.prog 217=some ⟨16,f217.erase,[(RX.t 2),(RX.t 3)]⟩:=by kernel_rfl
theorem okf217:f217.ok=true:=by kernel_rfl
def Υ217:=PLift.up (uu f217.eq_1)
theorem Ψ217:type_of% Υ217.1:=Υ217.1
def f218:AQ:=(ζ [η (.mov 2 (χ false))] (ζ [θ 3 0,η (.bin 4 .geq (.t 3) (.v (.k (.c (.int .u8 32))))),θ 5 4,zAE 5 (.mov 6 (.t 0)),zAE 5 (.bin 7 .leq (.t 6) (.v (.k (.c (.int .u8 126))))),η (.pick 8 (.t 5) (.t 7) (χ false)),θ 2 8] .ret))
theorem hf218:zH Tryz.prog 218=some ⟨9,f218.erase,[(RX.t 2)]⟩:=by kernel_rfl
theorem okf218:f218.ok=true:=by kernel_rfl
def Υ218:=PLift.up (uu f218.eq_1)
theorem Ψ218:type_of% Υ218.1:=Υ218.1
def f15l16:AQ:=.loop [1,5,8,9,10] [5,22] (ζ [zAB 11 .lss 10 9] (.seq (.cond (.t 11) .skip (.exit 0)) (.seq (.block 1 (ζ [θ 12 10,Ψ 13 8 8 10,ω 14 8 13,η (.alloc 7 46 [(.int .i64 0),(.str []),(.str []),(.str []),(.str []),(.str []),(.int .i64 0),(.int .i64 0)]),θ 6 12,Φ 8 7 14] (.frz 7 (ζ [ω 15 8 7,θ 16 1,Ξ 17 39 15 16,η (.un 18 .not (.t 17))] (.cond (.t 18) (.region [θ 19 5,θ 20 6,η (.bslice 21 3 1 [(.int .i64 0)] 1 [(0,(.t 20))]),η (.append 22 3 1 8 (.t 19) (.t 21)),θ 5 22]) .skip))))) (.region [η (.bin 23 .add (.t 10) (φ 1)),θ 10 23]))))
def f15:AQ:=(ζ [η (.nilL 4 3 1)] (ζ [η (.nilL 5 3 1)] (.seq (ζ [θ 8 0,Ω 9 8,η (.mov 10 (φ 0))] (.block 0 f15l16)) (ζ [θ 24 5,θ 4 24] .ret))))
theorem hf15:zH Tryz.prog 15=some ⟨25,f15.erase,[(RX.t 4)]⟩:=by kernel_rfl
theorem okf15:f15.ok=true:=by kernel_rfl
def Υ15:=PLift.up (uu f15.eq_1)
theorem Ψ15:type_of% Υ15.1:=Υ15.1
def f16l23:AQ:=.loop [2,5,6,7,21,22,23,29,30,31] [2,5,7,88] (ζ [zAB 32 .lss 31 30] (.seq (.cond (.t 32) .skip (.exit 2)) (.seq (.block 3 (ζ [θ 33 31,Ψ 34 1 29 31,ψ 35 1 34,θ 8 33,θ 9 35] (ζ [Γ 36 1 7,ψ 37 1 36,θ 38 9,Ξ 39 40 37 38,θ 40 8,zAB 41 .eql 39 40,θ 42 41,zAE 42 (.mov 43 (.t 8)),zAE 42 (.faddr 44 2 (.t 7)),zAE 42 (.load 45 1 false (.t 44)),zAE 42 (.len 46 (.t 45)),zAE 42 (.bin 47 .lss (.t 43) (.t 46)),η (.pick 48 (.t 42) (.t 47) (χ false)),θ 10 48] (ζ [Γ 49 0 7,ψ 50 1 49,Γ 51 1 2,ψ 52 1 51,zAB 53 .eql 50 52,θ 54 53,zAE 54 (.mov 55 (.t 9)),zAE 54 (.faddr 56 2 (.t 2)),zAE 54 (.load 57 1 false (.t 56)),zAE 54 (.bin 58 .eql (.t 55) (.t 57)),η (.pick 59 (.t 54) (.t 58) (χ false)),θ 11 59] (ζ [Γ 60 0 2,ψ 61 1 60,η (.bin 62 .eql (.t 61) (φ 3)),θ 63 62,zAE 63 (.faddr 64 0 (.t 7)),zAE 63 (.load 65 1 false (.t 64)),zAE 63 (.faddr 66 3 (.t 2)),zAE 63 (.load 67 1 false (.t 66)),zAE 63 (.bin 68 .eql (.t 65) (.t 67)),η (.pick 69 (.t 63) (.t 68) (χ false)),θ 70 69,zAE 70 (.mov 71 (.t 9)),zAE 70 (.faddr 72 4 (.t 2)),zAE 70 (.load 73 1 false (.t 72)),zAE 70 (.bin 74 .eql (.t 71) (.t 73)),η (.pick 75 (.t 70) (.t 74) (χ false)),θ 12 75] (ζ [θ 76 10,θ 77 76,zAE 77 (.mov 78 (.t 11)),zAE 77 (.mov 79 (.t 78)),zAF 79 (.mov 80 (.t 12)),zAE 77 (.pick 81 (.t 79) (χ true) (.t 80)),η (.pick 82 (.t 77) (.t 81) (χ false))] (.cond (.t 82) (.region [θ 83 5,θ 84 6,θ 85 8,η (.build 86 [(.int .i64 0),(.int .i64 0)] [(0,(1,(.t 84))),(1,(1,(.t 85)))]),η (.bslice 87 64 2 [(.int .i64 0),(.int .i64 0)] 1 [(0,(.t 86))]),η (.append 88 64 2 16 (.t 83) (.t 87)),θ 5 88]) .skip))))))) (.region [η (.bin 89 .add (.t 31) (φ 1)),θ 31 89]))))
def f16l35:AQ:=.loop [2,5,21,22,23] [2,5,88] (ζ [zAB 24 .lss 23 22] (.seq (.cond (.t 24) .skip (.exit 0)) (.seq (.block 1 (ζ [θ 25 23,Ψ 26 3 21 23,ω 27 3 26,η (.alloc 7 53 [(.str []),(.list 0 (some true) []),(.list 0 (some true) [])]),θ 6 25,Φ 3 7 27] (.frz 7 (ζ [Γ 28 1 7,ψ 29 1 28,Ω 30 29,η (.mov 31 (φ 0))] (.block 2 f16l23))))) (.region [η (.bin 90 .add (.t 23) (φ 1)),θ 23 90]))))
def f16:AQ:=(ζ [zAA 2 46 0,η (.nilL 4 64 2)] (.frz 2 (ζ [η (.nilL 5 64 2)] (.seq (ζ [Γ 13 0 2,ψ 14 1 13,η (.bin 15 .leq (.t 14) (φ 0)),θ 16 15,zAF 16 (.faddr 17 0 (.t 2)),zAF 16 (.load 18 1 false (.t 17)),zAF 16 (.bin 19 .geq (.t 18) (φ 5)),η (.pick 20 (.t 16) (χ true) (.t 19))] (.cond (.t 20) (ζ [η (.nilL 4 64 2)] .ret) .skip)) (.seq (ζ [θ 21 1,Ω 22 21,η (.mov 23 (φ 0))] (.block 0 f16l35)) (ζ [θ 91 5,θ 4 91] .ret))))))
theorem hf16:zH Tryz.prog 16=some ⟨92,f16.erase,[(RX.t 4)]⟩:=by kernel_rfl
theorem okf16:f16.ok=true:=by kernel_rfl
def Υ16:=PLift.up (uu f16.eq_1)
theorem Ψ16:type_of% Υ16.1:=Υ16.1
def f13:AQ:=(ζ [η (.mov 2 (φ 0)),η (.mov 3 (φ 0))] (ζ [θ 8 0,Θ 9 37 8,θ 7 9,Δ 10 7 0,Δ 11 7 1,Δ 12 7 2,θ 4 10,θ 5 11,θ 6 12] (ζ [θ 13 5,θ 14 6,θ 2 13,θ 3 14] .ret)))
theorem hf13:zH Tryz.prog 13=some ⟨15,f13.erase,[(RX.t 2),(RX.t 3)]⟩:=by kernel_rfl
theorem okf13:f13.ok=true:=by kernel_rfl
def Υ13:=PLift.up (uu f13.eq_1)
theorem Ψ13:type_of% Υ13.1:=Υ13.1
def f14:AQ:=(ζ [η (.nilL 4 53 3),η (.mov 5 (φ 0))] (ζ [θ 10 0,Θ 11 37 10,θ 9 11,Δ 12 9 0,Δ 13 9 1,Δ 14 9 2,θ 6 12,θ 7 13,θ 8 14] (.seq (ζ [θ 15 8,η (.bin 16 .neq (.t 15) (φ 0))] (.cond (.t 16) (ζ [θ 17 8,η (.nilL 4 53 3),θ 5 17] .ret) .skip)) (.seq (ζ [θ 18 1,η (.bin 19 .lss (.t 18) (φ 0)),θ 20 19,zAF 20 (.mov 21 (.t 1)),zAF 20 (.mov 22 (.t 7)),zAF 20 (.bin 23 .geq (.t 21) (.t 22)),η (.pick 24 (.t 20) (χ true) (.t 23))] (.cond (.t 24) (ζ [η (.nilL 4 53 3),η (.mov 5 (φ 4))] .ret) .skip)) (ζ [θ 25 0,θ 26 6,θ 27 1,η (.call (some 28) 38 [(.t 25),(.t 26),(.t 27)]),θ 4 28,η (.mov 5 (φ 0))] .ret)))))
theorem hf14:zH Tryz.prog 14=some ⟨29,f14.erase,[(RX.t 4),(RX.t 5)]⟩:=by kernel_rfl
theorem okf14:f14.ok=true:=by kernel_rfl
def Υ14:=PLift.up (uu f14.eq_1)
theorem Ψ14:type_of% Υ14.1:=Υ14.1
def f37l21:AQ:=.loop [8,9,29,30,31] [9,51] (ζ [zAB 32 .lss 31 30] (.seq (.cond (.t 32) .skip (.exit 2)) (.seq (.block 3 (ζ [Ψ 33 2 29 31,ω 34 2 33,η (.alloc 11 58 [(.str []),(.list 0 (some true) [])]),Φ 2 11 34] (.frz 11 (ζ [ω 36 2 11,Θ 37 77 36,θ 35 37,Δ 38 35 0,Δ 39 35 1,θ 12 38,θ 13 39] (.seq (ζ [θ 40 13,η (.bin 41 .neq (.t 40) (φ 0)),θ 42 41,zAF 42 (.mov 43 (.t 8)),zAF 42 (.mov 44 (.t 12)),zAF 42 (.bin 45 .mul (.t 43) (.t 44)),zAF 42 (.bin 46 .gtr (.t 45) (φ 4096)),η (.pick 47 (.t 42) (χ true) (.t 46))] (.cond (.t 47) (ζ [η (.nilL 2 3 1),η (.mov 3 (φ 0)),η (.mov 4 (φ 6))] .ret) .skip)) (.region [θ 48 9,θ 49 12,η (.bslice 50 3 1 [(.int .i64 0)] 1 [(0,(.t 49))]),η (.append 51 3 1 8 (.t 48) (.t 50)),θ 52 8,θ 53 12,zAB 54 .mul 52 53,θ 9 51,θ 8 54])))))) (.region [η (.bin 55 .add (.t 31) (φ 1)),θ 31 55]))))
def f37l46:AQ:=.loop [0,17,18,19] [] (ζ [zAB 20 .lss 19 18] (.seq (.cond (.t 20) .skip (.exit 0)) (.seq (.block 1 (ζ [Ψ 21 2 17 19,ω 22 2 21,η (.alloc 6 58 [(.str []),(.list 0 (some true) [])]),Φ 2 6 22] (.frz 6 (ζ [ω 23 2 6,Θ 24 55 23,θ 7 24] (ζ [θ 25 7,η (.bin 26 .neq (.t 25) (φ 0))] (.cond (.t 26) (ζ [θ 27 7,η (.nilL 2 3 1),η (.mov 3 (φ 0)),θ 4 27] .ret) .skip)))))) (.region [η (.bin 28 .add (.t 19) (φ 1)),θ 19 28]))))
def f37:AQ:=(ζ [η (.nilL 2 3 1),η (.mov 3 (φ 0)),η (.mov 4 (φ 0))] (.seq (ζ [θ 14 0,Ω 15 14,η (.bin 16 .gtr (.t 15) (φ 8))] (.cond (.t 16) (ζ [η (.nilL 2 3 1),η (.mov 3 (φ 0)),η (.mov 4 (φ 6))] .ret) .skip)) (.seq (ζ [θ 17 0,Ω 18 17,η (.mov 19 (φ 0))] (.block 0 f37l46)) (ζ [η (.mov 8 (φ 1))] (ζ [η (.nilL 9 3 1)] (.seq (ζ [θ 29 0,Ω 30 29,η (.mov 31 (φ 0))] (.block 2 f37l21)) (ζ [θ 56 9,θ 57 8,θ 2 56,θ 3 57,η (.mov 4 (φ 0))] .ret)))))))
theorem hf37:zH Tryz.prog 37=some ⟨58,f37.erase,[(RX.t 2),(RX.t 3),(RX.t 4)]⟩:=by kernel_rfl
theorem okf37:f37.ok=true:=by kernel_rfl
def Υ37:=PLift.up (uu f37.eq_1)
theorem Ψ37:type_of% Υ37.1:=Υ37.1
def f38r5o0:AI:=.mk none (.mov 20 (.t 7))
def f38r5o1:AI:=.mk none (.mov 21 (.t 8))
def f38r5o2:AI:=.mk none (.mov 22 (.t 0))
def f38r5o3:AI:=.mk none (.mov 23 (.t 8))
def f38r5o4:AI:=.mk none (.iaddr 24 2 (.t 22) (.t 23))
def f38r5o5:AI:=.mk none (.load 25 2 true (.t 24))
def f38r5o6:AI:=.mk none (.mov 26 (.t 2))
def f38r5o7:AI:=.mk none (.mov 27 (.t 1))
def f38r5o8:AI:=.mk none (.mov 28 (.t 8))
def f38r5o9:AI:=.mk none (.iaddr 29 1 (.t 27) (.t 28))
def f38r5o10:AI:=.mk none (.load 30 1 false (.t 29))
def f38r5o11:AI:=.mk none (.bin 31 .rem (.t 26) (.t 30))
def f38r5o12:AI:=.mk none (.call (some 32) 78 [(.t 25),(.t 31)])
def f38r5o13:AI:=.mk none (.mov 19 (.t 32))
def f38r5o14:AI:=.mk none (.extr 33 (.t 19) 0)
def f38r5o15:AI:=.mk none (.extr 34 (.t 19) 1)
def f38r5o16:AI:=.mk none (.iaddr 35 3 (.t 20) (.t 21))
def f38r5o17:AI:=.mk none (.store 3 (.t 35) (.t 33))
def f38r5:LA:=[f38r5o0,f38r5o1,f38r5o2,f38r5o3,f38r5o4,f38r5o5,f38r5o6,f38r5o7,f38r5o8,f38r5o9,f38r5o10,f38r5o11,f38r5o12,f38r5o13,f38r5o14,f38r5o15,f38r5o16,f38r5o17]
theorem zoe:nI f38r5 [[],[],[],[],[2,3],[4],[],[],[],[7,8],[9],[6,10],[5,11],[12],[13],[13],[0,1,0,1,2,3,4,5,6,7,8,9,10,11,12,13,14],[16,14,12,0,1,2,3,4,5,6,7,8,9,10,11,12,13,14]]=(.one f38r5o0 (.one f38r5o1 (.one f38r5o2 (.one f38r5o3 (.one f38r5o4 (.one f38r5o5 (.one f38r5o6 (.one f38r5o7 (.one f38r5o8 (.one f38r5o9 (.one f38r5o10 (.one f38r5o11 (.one f38r5o12 (.one f38r5o13 (.one f38r5o14 (.one f38r5o16 (.alt (.one f38r5o15 (.one f38r5o17 .done)) (.alt (.one f38r5o17 (.one f38r5o15 .done)) .top)))))))))))))))))):=by kernel_rfl
def f38l13:AQ:=.loop [0,1,2,7,8] [11,32,33000,33001,33002] (.seq (ζ [θ 15 8,η (.bin 16 .geq (.t 15) (φ 0))] (.cond (.t 16) .skip (.exit 0))) (.seq (.block 1 (.seq (.tree f38r5 [[],[],[],[],[2,3],[4],[],[],[],[7,8],[9],[6,10],[5,11],[12],[13],[13],[0,1,0,1,2,3,4,5,6,7,8,9,10,11,12,13,14],[16,14,12,0,1,2,3,4,5,6,7,8,9,10,11,12,13,14]]) (.keep [0,1,2,7,8] [11,32,33000,33001,33002] (.region [θ 36 2,θ 37 1,θ 38 8,Ψ 39 1 37 38,ψ 40 1 39,zAB 41 .quo 36 40,θ 2 41])))) (.region [θ 17 8,η (.bin 18 .sub (.t 17) (φ 1)),θ 8 18])))
def f38:AQ:=(ζ [η (.nilL 6 53 3)] (ζ [θ 9 0,Ω 10 9,η (.mkslice 11 53 3 64 [(.str []),(.list 0 (some true) []),(.list 0 (some true) [])] (.t 10) (.t 10)),θ 7 11] (.seq (ζ [θ 12 0,Ω 13 12,η (.bin 14 .sub (.t 13) (φ 1)),θ 8 14] (.block 0 f38l13)) (ζ [θ 42 7,θ 6 42] .ret))))
theorem hf38:zH Tryz.prog 38=some ⟨43,f38.erase,[(RX.t 6)]⟩:=by kernel_rfl
theorem okf38:f38.ok=true:=by kernel_rfl
def Υ38:=PLift.up (uu f38.eq_1)
theorem Ψ38:type_of% Υ38.1:=Υ38.1
def f35l11:AQ:=.loop [0,3] [3,14] (.seq (ζ [θ 4 0,η (.bin 5 .neq (.t 4) (.v (.k (.c (.int .u64 0)))))] (.cond (.t 5) .skip (.exit 0))) (.seq (.block 1 (.region [θ 10 3,θ 11 0,Θ 12 75 11,η (.bslice 13 3 1 [(.int .i64 0)] 1 [(0,(.t 12))]),η (.append 14 3 1 8 (.t 10) (.t 13)),θ 3 14])) (.region [θ 6 0,θ 7 0,η (.bin 8 .sub (.t 7) (.v (.k (.c (.int .u64 1))))),zAB 9 .and 6 8,θ 0 9])))
def f35:AQ:=(ζ [η (.nilL 2 3 1)] (ζ [η (.nilL 3 3 1)] (.seq (.block 0 f35l11) (ζ [θ 15 3,θ 2 15] .ret))))
theorem hf35:zH Tryz.prog 35=some ⟨16,f35.erase,[(RX.t 2)]⟩:=by kernel_rfl
theorem okf35:f35.ok=true:=by kernel_rfl
def Υ35:=PLift.up (uu f35.eq_1)
theorem Ψ35:type_of% Υ35.1:=Υ35.1
def f36:AQ:=(ζ [η (.mov 4 (χ false))] (ζ [θ 5 0,θ 6 1,Ξ 7 76 5 6,η (.bin 8 .geq (.t 7) (φ 0)),θ 4 8] .ret))
theorem hf36:zH Tryz.prog 36=some ⟨9,f36.erase,[(RX.t 4)]⟩:=by kernel_rfl
theorem okf36:f36.ok=true:=by kernel_rfl
def Υ36:=PLift.up (uu f36.eq_1)
theorem Ψ36:type_of% Υ36.1:=Υ36.1
def f76l17:AQ:=.loop [0,1,7,8] [] (ζ [zAB 9 .lss 8 7] (.seq (.cond (.t 9) .skip (.exit 0)) (.seq (.block 1 (ζ [θ 10 8,θ 5 10] (ζ [θ 11 1,θ 12 0,θ 13 5,Ψ 14 1 12 13,ψ 15 1 14,zAB 16 .eql 11 15] (.cond (.t 16) (ζ [θ 17 5,θ 4 17] .ret) .skip)))) (.region [η (.bin 18 .add (.t 8) (φ 1)),θ 8 18]))))
def f76:AQ:=(ζ [η (.mov 4 (φ 0))] (.seq (ζ [θ 6 0,Ω 7 6,η (.mov 8 (φ 0))] (.block 0 f76l17)) (ζ [η (.mov 4 (.v (.k (.c (.int .i64 (-1))))))] .ret)))
theorem hf76:zH Tryz.prog 76=some ⟨19,f76.erase,[(RX.t 4)]⟩:=by kernel_rfl
theorem okf76:f76.ok=true:=by kernel_rfl
def Υ76:=PLift.up (uu f76.eq_1)
theorem Ψ76:type_of% Υ76.1:=Υ76.1
def f33l15:AQ:=.loop [10,64,65,66] [3,10,26,63,74] (ζ [zAB 67 .lss 66 65] (.seq (.cond (.t 67) .skip (.exit 6)) (.seq (.block 7 (ζ [Ψ 68 1 64 66,ψ 69 1 68,θ 12 69] (.region [θ 70 10,θ 71 12,Θ 72 35 71,η (.bslice 73 30 1 [(.list 0 (some true) [])] 1 [(0,(.t 72))]),η (.append 74 30 1 24 (.t 70) (.t 73)),θ 10 74]))) (.region [η (.bin 75 .add (.t 66) (φ 1)),θ 66 75]))))
def f33l37:AQ:=.loop [1,3,5,6,7,42,43,44] [1,3,26,40,42,63,41000,41001,41002,43000,43001,43002] (ζ [zAB 45 .lss 44 43] (.seq (.cond (.t 45) .skip (.exit 4)) (.seq (.block 5 (ζ [Ψ 46 1 42 44,ψ 47 1 46,θ 9 47] (.region [θ 48 7,θ 49 48,zAE 49 (.mov 50 (.t 5)),zAE 49 (.mov 51 (.t 6)),zAE 49 (.mov 52 (.t 9)),zAE 49 (.bin 53 .shl (.v (.k (.c (.int .u64 1)))) (.t 52)),zAE 49 (.bin 54 .andNot (.t 51) (.t 53)),zAE 49 (.callv (some 55) (.t 50) [(.t 54)]),zAE 49 (.un 56 .not (.t 55)),η (.pick 57 (.t 49) (.t 56) (χ false)),θ 7 57]))) (.region [η (.bin 58 .add (.t 44) (φ 1)),θ 44 58]))))
def f33l50:AQ:=.loop [1,3,5,6] [1,3,26,63] (.seq (ζ [θ 31 6,η (.bin 32 .neq (.t 31) (.v (.k (.c (.int .u64 0)))))] (.cond (.t 32) .skip (.exit 2))) (.seq (.block 3 (ζ [θ 38 5,θ 39 6,η (.callv (some 40) (.t 38) [(.t 39)]),θ 7 40] (.seq (ζ [θ 41 6,Θ 42 35 41,Ω 43 42,η (.mov 44 (φ 0))] (.block 4 f33l37)) (ζ [θ 59 7] (.cond (.t 59) (.region [θ 60 3,θ 61 6,η (.bslice 62 71 1 [(.int .u64 0)] 1 [(0,(.t 61))]),η (.append 63 71 1 8 (.t 60) (.t 62)),θ 3 63]) .skip))))) (.region [θ 33 6,η (.bin 34 .sub (.t 33) (.v (.k (.c (.int .u64 1))))),Γ 35 2 1,ψ 36 1 35,zAB 37 .and 34 36,θ 6 37])))
def f33l70:AQ:=.loop [1,3,13] [1,3,26,63] (ζ [η (.bin 14 .lss (.t 13) (φ 64))] (.seq (.cond (.t 14) .skip (.exit 0)) (.seq (.block 1 (ζ [θ 15 13,θ 4 15] (ζ [Γ 16 1 1,ψ 17 1 16,θ 18 4,zAB 19 .shr 17 18,η (.bin 20 .and (.t 19) (.v (.k (.c (.int .u64 1))))),η (.bin 21 .eql (.t 20) (.v (.k (.c (.int .u64 1)))))] (.cond (.t 21) (.region [θ 22 3,θ 23 4,η (.bin 24 .shl (.v (.k (.c (.int .u64 1)))) (.t 23)),η (.bslice 25 71 1 [(.int .u64 0)] 1 [(0,(.t 24))]),η (.append 26 71 1 8 (.t 22) (.t 25)),θ 3 26]) .skip)))) (.region [η (.bin 27 .add (.t 13) (φ 1)),θ 13 27]))))
def f33:AQ:=(ζ [zAA 1 73 0,η (.nilL 2 30 1)] (.frz 1 (ζ [η (.nilL 3 71 1)] (.seq (ζ [η (.mov 13 (φ 0))] (.block 0 f33l70)) (ζ [η (.mkfn 28 66 [(.t 1)]),θ 5 28] (.seq (ζ [Γ 29 2 1,ψ 30 1 29,θ 6 30] (.block 2 f33l50)) (ζ [η (.nilL 10 30 1)] (.seq (ζ [θ 64 3,Ω 65 64,η (.mov 66 (φ 0))] (.block 6 f33l15)) (ζ [θ 76 10,η (.call (some 77) 69 [(.t 76),(.v (.k (.c (.fn 70 []))))])] (ζ [θ 78 10,θ 2 78] .ret))))))))))
theorem hf33:zH Tryz.prog 33=some ⟨79,f33.erase,[(RX.t 2)]⟩:=by kernel_rfl
theorem okf33:f33.ok=true:=by kernel_rfl
def Υ33:=PLift.up (uu f33.eq_1)
theorem Ψ33:type_of% Υ33.1:=Υ33.1
def f66:AQ:=(ζ [zAA 2 71 0,η (.mov 3 (χ false))] (.frz 2 (ζ [Γ 4 0 1,ψ 5 1 4,η (.mkfn 6 68 [(.t 2)]),Ξ 7 67 5 6,η (.un 8 .not (.t 7)),θ 3 8] .ret)))
theorem hf66:zH Tryz.prog 66=some ⟨9,f66.erase,[(RX.t 3)]⟩:=by kernel_rfl
theorem okf66:f66.ok=true:=by kernel_rfl
def Υ66:=PLift.up (uu f66.eq_1)
theorem Ψ66:type_of% Υ66.1:=Υ66.1
def f67:AQ:=(ζ [η (.mov 4 (χ false))] (ζ [θ 5 0,θ 6 1,Ξ 7 105 5 6,η (.bin 8 .geq (.t 7) (φ 0)),θ 4 8] .ret))
theorem hf67:zH Tryz.prog 67=some ⟨9,f67.erase,[(RX.t 4)]⟩:=by kernel_rfl
theorem okf67:f67.ok=true:=by kernel_rfl
def Υ67:=PLift.up (uu f67.eq_1)
theorem Ψ67:type_of% Υ67.1:=Υ67.1
def f68:AQ:=(ζ [η (.mov 3 (χ false))] (ζ [θ 4 0,ψ 5 1 1,zAB 6 .and 4 5,η (.bin 7 .eql (.t 6) (.v (.k (.c (.int .u64 0))))),θ 3 7] .ret))
theorem hf68:zH Tryz.prog 68=some ⟨8,f68.erase,[(RX.t 3)]⟩:=by kernel_rfl
theorem okf68:f68.ok=true:=by kernel_rfl
def Υ68:=PLift.up (uu f68.eq_1)
theorem Ψ68:type_of% Υ68.1:=Υ68.1
def f105l17:AQ:=.loop [0,1,7,8] [] (ζ [zAB 9 .lss 8 7] (.seq (.cond (.t 9) .skip (.exit 0)) (.seq (.block 1 (ζ [θ 10 8,θ 5 10] (ζ [θ 11 1,θ 12 0,θ 13 5,Ψ 14 1 12 13,ψ 15 1 14,η (.callv (some 16) (.t 11) [(.t 15)])] (.cond (.t 16) (ζ [θ 17 5,θ 4 17] .ret) .skip)))) (.region [η (.bin 18 .add (.t 8) (φ 1)),θ 8 18]))))
def f105:AQ:=(ζ [η (.mov 4 (φ 0))] (.seq (ζ [θ 6 0,Ω 7 6,η (.mov 8 (φ 0))] (.block 0 f105l17)) (ζ [η (.mov 4 (.v (.k (.c (.int .i64 (-1))))))] .ret)))
theorem hf105:zH Tryz.prog 105=some ⟨19,f105.erase,[(RX.t 4)]⟩:=by kernel_rfl
theorem okf105:f105.ok=true:=by kernel_rfl
def Υ105:=PLift.up (uu f105.eq_1)
theorem Ψ105:type_of% Υ105.1:=Υ105.1
def f34l15:AQ:=.loop [0,2,7,10,11,12] [7,23] (ζ [zAB 13 .lss 12 11] (.seq (.cond (.t 13) .skip (.exit 0)) (.seq (.block 1 (ζ [Ψ 14 1 10 12,ψ 15 1 14,θ 9 15] (.region [θ 16 7,θ 17 0,θ 18 9,Ψ 19 8 17 18,ω 20 8 19,θ 21 2,Ξ 22 16 20 21,η (.append 23 64 2 16 (.t 16) (.t 22)),θ 7 23]))) (.region [η (.bin 24 .add (.t 12) (φ 1)),θ 12 24]))))
def f34:AQ:=(ζ [η (.nilL 6 64 2)] (ζ [η (.nilL 7 64 2)] (.seq (ζ [θ 10 1,Ω 11 10,η (.mov 12 (φ 0))] (.block 0 f34l15)) (ζ [θ 25 7,η (.call (some 26) 72 [(.t 25),(.v (.k (.c (.fn 73 []))))])] (ζ [θ 27 7,Θ 28 74 27,θ 6 28] .ret)))))
theorem hf34:zH Tryz.prog 34=some ⟨29,f34.erase,[(RX.t 6)]⟩:=by kernel_rfl
theorem okf34:f34.ok=true:=by kernel_rfl
def Υ34:=PLift.up (uu f34.eq_1)
theorem Ψ34:type_of% Υ34.1:=Υ34.1
def f10l15:AQ:=.loop [0,8,10,49,50,51] [10,19,27,45,49,65,20000,20001,20002,28000,28001,28002,50000,50001,50002] (ζ [zAB 52 .lss 51 50] (.seq (.cond (.t 52) .skip (.exit 2)) (.seq (.block 3 (ζ [Ψ 53 1 49 51,ψ 54 1 53,θ 14 54] (ζ [θ 55 14,η (.bslice 56 3 1 [(.int .i64 0)] 1 [(0,(.t 55))]),θ 15 56] (.region [θ 57 10,θ 58 15,θ 59 0,θ 60 15,θ 61 8,η (.call (some 62) 34 [(.t 59),(.t 60),(.t 61)]),η (.build 63 [(.list 0 (some true) []),(.list 0 (some true) []),(.bool false)] [(0,(1,(.t 58))),(1,(1,(.t 62)))]),η (.bslice 64 33 3 [(.list 0 (some true) []),(.list 0 (some true) []),(.bool false)] 1 [(0,(.t 63))]),η (.append 65 33 3 56 (.t 57) (.t 64)),θ 10 65])))) (.region [η (.bin 66 .add (.t 51) (φ 1)),θ 51 66]))))
def f10l30:AQ:=.loop [0,6,8,10,31,32,33] [6,10,19,27,31,45,65,20000,20001,20002,28000,28001,28002,32000,32001,32002] (ζ [zAB 34 .lss 33 32] (.seq (.cond (.t 34) .skip (.exit 0)) (.seq (.block 1 (ζ [Ψ 35 1 31 33,ψ 36 1 35,θ 12 36] (.region [θ 37 10,θ 38 12,θ 39 0,θ 40 12,θ 41 8,η (.call (some 42) 34 [(.t 39),(.t 40),(.t 41)]),η (.build 43 [(.list 0 (some true) []),(.list 0 (some true) []),(.bool false)] [(0,(1,(.t 38))),(1,(1,(.t 42))),(2,(1,(χ true)))]),η (.bslice 44 33 3 [(.list 0 (some true) []),(.list 0 (some true) []),(.bool false)] 1 [(0,(.t 43))]),η (.append 45 33 3 56 (.t 37) (.t 44)),θ 10 45]))) (.region [η (.bin 46 .add (.t 33) (φ 1)),θ 33 46]))))
def f10:AQ:=(ζ [η (.nilL 4 33 3),η (.mov 5 (φ 0))] (ζ [θ 17 0,θ 18 1,Ξ 19 32 17 18,θ 16 19,Δ 20 16 0,Δ 21 16 1,η (.alloc 6 73 [(.list 0 (some true) []),(.int .u64 0),(.int .u64 0)]),Φ 3 6 20,θ 7 21] (.frz 6 (.seq (ζ [θ 22 7,η (.bin 23 .neq (.t 22) (φ 0))] (.cond (.t 23) (ζ [θ 24 7,η (.nilL 4 33 3),θ 5 24] .ret) .skip)) (ζ [θ 26 1,η (.call (some 27) 14 [(.t 26),(φ 0)]),θ 25 27,Δ 28 25 0,Δ 29 25 1,θ 8 28,θ 9 29] (ζ [η (.nilL 10 33 3)] (.seq (ζ [ω 30 3 6,Θ 31 33 30,Ω 32 31,η (.mov 33 (φ 0))] (.block 0 f10l30)) (.seq (ζ [Γ 47 2 6,ψ 48 1 47,Θ 49 35 48,Ω 50 49,η (.mov 51 (φ 0))] (.block 2 f10l15)) (ζ [θ 67 10,θ 4 67,η (.mov 5 (φ 0))] .ret)))))))))
theorem hf10:zH Tryz.prog 10=some ⟨68,f10.erase,[(RX.t 4),(RX.t 5)]⟩:=by kernel_rfl
theorem okf10:f10.ok=true:=by kernel_rfl
def Υ10:=PLift.up (uu f10.eq_1)
theorem Ψ10:type_of% Υ10.1:=Υ10.1
def f12:AQ:=(ζ [η (.mov 4 (φ 0)),η (.mov 5 (φ 0))] (ζ [θ 9 0,θ 10 1,Ξ 11 32 9 10,θ 8 11,Δ 12 8 0,Δ 13 8 1,η (.alloc 6 73 [(.list 0 (some true) []),(.int .u64 0),(.int .u64 0)]),Φ 3 6 12,θ 7 13] (.frz 6 (.seq (ζ [θ 14 7,η (.bin 15 .neq (.t 14) (φ 0))] (.cond (.t 15) (ζ [θ 16 7,η (.mov 4 (φ 0)),θ 5 16] .ret) .skip)) (.seq (.block 0 (ζ [Γ 18 0 6,ψ 19 1 18,η (.call (some 20) 36 [(.t 19),(.v (.k (.c (.int .u64 0))))]),η (.un 21 .not (.t 20)),θ 17 21] (.cond (.t 17) (ζ [η (.mov 4 (φ 0)),η (.mov 5 (φ 0))] .ret) (ζ [Γ 23 0 6,ψ 24 1 23,Ω 25 24,η (.bin 26 .eql (.t 25) (φ 1)),θ 22 26] (.cond (.t 22) (ζ [η (.mov 4 (φ 1)),η (.mov 5 (φ 0))] .ret) .skip))))) (ζ [η (.mov 4 (φ 2)),η (.mov 5 (φ 0))] .ret))))))
theorem hf12:zH Tryz.prog 12=some ⟨27,f12.erase,[(RX.t 4),(RX.t 5)]⟩:=by kernel_rfl
theorem okf12:f12.ok=true:=by kernel_rfl
def Υ12:=PLift.up (uu f12.eq_1)
theorem Ψ12:type_of% Υ12.1:=Υ12.1
def f20:AQ:=(ζ [η (.mov 4 (φ 0))] (ζ [θ 8 0,θ 9 1,Ξ 10 32 8 9,θ 7 10,Δ 11 7 0,Δ 12 7 1,η (.alloc 5 73 [(.list 0 (some true) []),(.int .u64 0),(.int .u64 0)]),Φ 3 5 11,θ 6 12] (.frz 5 (ζ [θ 13 6,θ 4 13] .ret))))
theorem hf20:zH Tryz.prog 20=some ⟨14,f20.erase,[(RX.t 4)]⟩:=by kernel_rfl
theorem okf20:f20.ok=true:=by kernel_rfl
def Υ20:=PLift.up (uu f20.eq_1)
theorem Ψ20:type_of% Υ20.1:=Υ20.1
def f29:AQ:=(ζ [η (.nilL 0 46 8),η (.nilL 1 58 2)] (.seq (.regs [([η (.bslice 5 9 1 [(.str [])] 2 [(0,(.v (.k (.c (.str [49,48,48]))))),(1,(.v (.k (.c (.str [55,48,48])))))])],[5]),([η (.build 6 [(.list 0 (some true) [])] [(0,(1,(.t 5)))]),η (.bslice 7 109 1 [(.list 0 (some true) [])] 1 [(0,(.t 6))])],[7]),([η (.build 8 [(.str []),(.list 0 (some true) [])] [(0,(1,(.v (.k (.c (.str [115,117,109])))))),(1,(1,(.t 7)))]),η (.alloc 2 107 [(.str []),(.list 0 (some true) [])]),Φ 2 2 8],[])]) (.frz 2 (.seq (.regs [([η (.bslice 9 9 1 [(.str [])] 1 [(0,(.v (.k (.c (.str [71,101,110,111,97])))))])],[9]),([η (.build 10 [(.list 0 (some true) [])] [(0,(1,(.t 9)))]),η (.bslice 11 109 1 [(.list 0 (some true) [])] 1 [(0,(.t 10))])],[11]),([η (.build 12 [(.str []),(.list 0 (some true) [])] [(0,(1,(.v (.k (.c (.str [112,111,114,116])))))),(1,(1,(.t 11)))]),η (.alloc 3 107 [(.str []),(.list 0 (some true) [])]),Φ 2 3 12],[])]) (.frz 3 (.seq (.regf [η (.build 13 [(.int .i64 0),(.str []),(.str []),(.str []),(.str []),(.str []),(.int .i64 0),(.int .i64 0)] [(0,(1,(φ 2))),(1,(1,(.v (.k (.c (.str [105,110,118,111,105,99,101])))))),(2,(1,(.v (.k (.c (.str [115,117,109])))))),(6,(1,(φ 50))),(7,(1,(φ 150)))]),η (.build 14 [(.int .i64 0),(.str []),(.str []),(.str []),(.str []),(.str []),(.int .i64 0),(.int .i64 0)] [(0,(1,(φ 2))),(1,(1,(.v (.k (.c (.str [105,110,118,111,105,99,101])))))),(2,(1,(.v (.k (.c (.str [115,117,109])))))),(6,(1,(φ 600))),(7,(1,(φ 800)))]),η (.build 15 [(.int .i64 0),(.str []),(.str []),(.str []),(.str []),(.str []),(.int .i64 0),(.int .i64 0)] [(0,(1,(φ 1))),(1,(1,(.v (.k (.c (.str [105,110,118,111,105,99,101])))))),(2,(1,(.v (.k (.c (.str [112,111,114,116])))))),(5,(1,(.v (.k (.c (.str [71,101,110,111,97]))))))]),η (.build 16 [(.int .i64 0),(.str []),(.str []),(.str []),(.str []),(.str []),(.int .i64 0),(.int .i64 0)] [(0,(1,(φ 0))),(1,(1,(.v (.k (.c (.str [112,97,99,107,105,110,103]))))))]),η (.bslice 17 46 8 [(.int .i64 0),(.str []),(.str []),(.str []),(.str []),(.str []),(.int .i64 0),(.int .i64 0)] 4 [(0,(.t 13)),(1,(.t 14)),(2,(.t 15)),(3,(.t 16))])] [17] [θ 4 17]) (.seq (.draw [θ 18 4,ω 19 2 2,ω 20 2 3,η (.bslice 21 107 2 [(.str []),(.list 0 (some true) [])] 2 [(0,(.t 19)),(1,(.t 20))]),η (.build 22 [(.str []),(.list 0 (some true) [])] [(0,(1,(.v (.k (.c (.str [105,110,118,111,105,99,101])))))),(1,(1,(.t 21)))]),η (.bslice 23 58 2 [(.str []),(.list 0 (some true) [])] 1 [(0,(.t 22))]),θ 0 18,θ 1 23] [[],[],[],[1,2],[3],[4],[0,0],[5,6,0,1,2,3,4,5,6]]) .ret)))))))
theorem hf29:zH Tryz.prog 29=some ⟨24,f29.erase,[(RX.t 0),(RX.t 1)]⟩:=by kernel_rfl
theorem okf29:f29.ok=true:=by kernel_rfl
def Υ29:=PLift.up (uu f29.eq_1)
theorem Ψ29:type_of% Υ29.1:=Υ29.1
def f25l15:AQ:=.loop [0,1,5] [] (.seq (ζ [θ 11 5,θ 12 0,Ω 13 12,zAB 14 .lss 11 13] (.cond (.t 14) .skip (.exit 0))) (.seq (.block 1 (.seq (.draw [θ 17 0,θ 18 5,Ψ 19 3 17 18,Γ 20 2 19,ψ 21 1 20,θ 22 1,θ 23 5,Ψ 24 3 22 23,Γ 25 2 24,ψ 26 1 25,η (.binB 27 true (.t 21) (.t 26)),θ 28 27,zAF 28 (.mov 29 (.t 0)),zAF 28 (.mov 30 (.t 5)),zAF 28 (.iaddr 31 3 (.t 29) (.t 30)),zAF 28 (.faddr 32 0 (.t 31)),zAF 28 (.load 33 1 false (.t 32)),zAF 28 (.mov 34 (.t 1)),zAF 28 (.mov 35 (.t 5)),zAF 28 (.iaddr 36 3 (.t 34) (.t 35)),zAF 28 (.faddr 37 0 (.t 36)),zAF 28 (.load 38 1 false (.t 37)),zAF 28 (.call (some 39) 52 [(.t 33),(.t 38)]),zAF 28 (.un 40 .not (.t 39)),η (.pick 41 (.t 28) (χ true) (.t 40)),θ 42 41,zAF 42 (.mov 43 (.t 0)),zAF 42 (.mov 44 (.t 5)),zAF 42 (.iaddr 45 3 (.t 43) (.t 44)),zAF 42 (.faddr 46 1 (.t 45)),zAF 42 (.load 47 1 false (.t 46)),zAF 42 (.mov 48 (.t 1)),zAF 42 (.mov 49 (.t 5)),zAF 42 (.iaddr 50 3 (.t 48) (.t 49)),zAF 42 (.faddr 51 1 (.t 50)),zAF 42 (.load 52 1 false (.t 51)),zAF 42 (.call (some 53) 53 [(.t 47),(.t 52)]),zAF 42 (.un 54 .not (.t 53)),η (.pick 55 (.t 42) (χ true) (.t 54))] [[],[],[0,1],[2],[3],[],[],[5,6],[7],[8],[4,9],[10],[11],[11],[12,13,11],[14,11],[15,11],[11],[11],[17,18,11],[19,11],[20,11],[16,21,11,11],[22,11],[11,23],[24,22],[25],[25],[26,27,25],[28,25],[29,25],[25],[25],[31,32,25],[33,25],[34,25],[30,35,25,25],[36,25],[25,37]]) (.cond (.t 55) (ζ [η (.mov 4 (χ false))] .ret) .skip))) (.region [θ 15 5,η (.bin 16 .add (.t 15) (φ 1)),θ 5 16])))
def f25:AQ:=(ζ [η (.mov 4 (χ false))] (.seq (ζ [θ 6 0,Ω 7 6,θ 8 1,Ω 9 8,zAB 10 .neq 7 9] (.cond (.t 10) (ζ [η (.mov 4 (χ false))] .ret) .skip)) (.seq (ζ [η (.mov 5 (φ 0))] (.block 0 f25l15)) (ζ [η (.mov 4 (χ true))] .ret))))
theorem hf25:zH Tryz.prog 25=some ⟨56,f25.erase,[(RX.t 4)]⟩:=by kernel_rfl
theorem okf25:f25.ok=true:=by kernel_rfl
def Υ25:=PLift.up (uu f25.eq_1)
theorem Ψ25:type_of% Υ25.1:=Υ25.1
def f52l15:AQ:=.loop [0,1,5] [] (.seq (ζ [θ 11 5,θ 12 0,Ω 13 12,zAB 14 .lss 11 13] (.cond (.t 14) .skip (.exit 0))) (.seq (.block 1 (.seq (.draw [θ 17 0,θ 18 5,Ψ 19 1 17 18,ψ 20 1 19,θ 21 1,θ 22 5,Ψ 23 1 21 22,ψ 24 1 23,zAB 25 .neq 20 24] [[],[],[0,1],[2],[],[],[4,5],[6],[3,7]]) (.cond (.t 25) (ζ [η (.mov 4 (χ false))] .ret) .skip))) (.region [θ 15 5,η (.bin 16 .add (.t 15) (φ 1)),θ 5 16])))
def f52:AQ:=(ζ [η (.mov 4 (χ false))] (.seq (ζ [θ 6 0,Ω 7 6,θ 8 1,Ω 9 8,zAB 10 .neq 7 9] (.cond (.t 10) (ζ [η (.mov 4 (χ false))] .ret) .skip)) (.seq (ζ [η (.mov 5 (φ 0))] (.block 0 f52l15)) (ζ [η (.mov 4 (χ true))] .ret))))
theorem hf52:zH Tryz.prog 52=some ⟨26,f52.erase,[(RX.t 4)]⟩:=by kernel_rfl
theorem okf52:f52.ok=true:=by kernel_rfl
def Υ52:=PLift.up (uu f52.eq_1)
theorem Ψ52:type_of% Υ52.1:=Υ52.1
def f53l15:AQ:=.loop [0,1,5] [] (.seq (ζ [θ 11 5,θ 12 0,Ω 13 12,zAB 14 .lss 11 13] (.cond (.t 14) .skip (.exit 0))) (.seq (.block 1 (.seq (.draw [θ 17 0,θ 18 5,Ψ 19 2 17 18,ω 20 2 19,θ 21 1,θ 22 5,Ψ 23 2 21 22,ω 24 2 23,η (.eqAgg 25 true [.int,.int] (.t 20) (.t 24))] [[],[],[0,1],[2],[],[],[4,5],[6],[3,7]]) (.cond (.t 25) (ζ [η (.mov 4 (χ false))] .ret) .skip))) (.region [θ 15 5,η (.bin 16 .add (.t 15) (φ 1)),θ 5 16])))
def f53:AQ:=(ζ [η (.mov 4 (χ false))] (.seq (ζ [θ 6 0,Ω 7 6,θ 8 1,Ω 9 8,zAB 10 .neq 7 9] (.cond (.t 10) (ζ [η (.mov 4 (χ false))] .ret) .skip)) (.seq (ζ [η (.mov 5 (φ 0))] (.block 0 f53l15)) (ζ [η (.mov 4 (χ true))] .ret))))
theorem hf53:zH Tryz.prog 53=some ⟨26,f53.erase,[(RX.t 4)]⟩:=by kernel_rfl
theorem okf53:f53.ok=true:=by kernel_rfl
def Υ53:=PLift.up (uu f53.eq_1)
theorem Ψ53:type_of% Υ53.1:=Υ53.1
def f22:AQ:=(ζ [zAA 2 53 0,zAA 3 53 1,η (.mov 4 (χ false))] (.frz 3 (.frz 2 (ζ [Γ 5 0 2,ψ 6 1 5,Γ 7 0 3,ψ 8 1 7,zAB 9 .eql 6 8,θ 10 9,zAE 10 (.faddr 11 1 (.t 2)),zAE 10 (.load 12 1 false (.t 11)),zAE 10 (.faddr 13 1 (.t 3)),zAE 10 (.load 14 1 false (.t 13)),zAE 10 (.call (some 15) 48 [(.t 12),(.t 14)]),η (.pick 16 (.t 10) (.t 15) (χ false)),θ 17 16,zAE 17 (.faddr 18 2 (.t 2)),zAE 17 (.load 19 1 false (.t 18)),zAE 17 (.faddr 20 2 (.t 3)),zAE 17 (.load 21 1 false (.t 20)),zAE 17 (.call (some 22) 48 [(.t 19),(.t 21)]),η (.pick 23 (.t 17) (.t 22) (χ false)),θ 4 23] .ret))))
theorem hf22:zH Tryz.prog 22=some ⟨24,f22.erase,[(RX.t 4)]⟩:=by kernel_rfl
theorem okf22:f22.ok=true:=by kernel_rfl
def Υ22:=PLift.up (uu f22.eq_1)
theorem Ψ22:type_of% Υ22.1:=Υ22.1
def f48l15:AQ:=.loop [0,1,5] [] (.seq (ζ [θ 11 5,θ 12 0,Ω 13 12,zAB 14 .lss 11 13] (.cond (.t 14) .skip (.exit 0))) (.seq (.block 1 (.seq (.draw [θ 17 0,θ 18 5,Ψ 19 1 17 18,ψ 20 1 19,θ 21 1,θ 22 5,Ψ 23 1 21 22,ψ 24 1 23,zAB 25 .neq 20 24] [[],[],[0,1],[2],[],[],[4,5],[6],[3,7]]) (.cond (.t 25) (ζ [η (.mov 4 (χ false))] .ret) .skip))) (.region [θ 15 5,η (.bin 16 .add (.t 15) (φ 1)),θ 5 16])))
def f48:AQ:=(ζ [η (.mov 4 (χ false))] (.seq (ζ [θ 6 0,Ω 7 6,θ 8 1,Ω 9 8,zAB 10 .neq 7 9] (.cond (.t 10) (ζ [η (.mov 4 (χ false))] .ret) .skip)) (.seq (ζ [η (.mov 5 (φ 0))] (.block 0 f48l15)) (ζ [η (.mov 4 (χ true))] .ret))))
theorem hf48:zH Tryz.prog 48=some ⟨26,f48.erase,[(RX.t 4)]⟩:=by kernel_rfl
theorem okf48:f48.ok=true:=by kernel_rfl
def Υ48:=PLift.up (uu f48.eq_1)
theorem Ψ48:type_of% Υ48.1:=Υ48.1
def f9l23:AQ:=.loop [0,1,5] [] (.seq (ζ [θ 8 5,θ 9 1,Ω 10 9,zAB 11 .lss 8 10,θ 12 11,zAE 12 (.mov 13 (.t 5)),zAE 12 (.bin 14 .lss (.t 13) (φ 12)),η (.pick 15 (.t 12) (.t 14) (χ false))] (.cond (.t 15) .skip (.exit 0))) (.seq (.block 1 (ζ [θ 18 1,θ 19 5,Ψ 20 2 18 19,ω 21 2 20,Θ 22 30 21,η (.un 23 .not (.t 22))] (.cond (.t 23) (ζ [η (.mov 4 (χ false))] .ret) .skip))) (.region [θ 16 5,η (.bin 17 .add (.t 16) (φ 1)),θ 5 17])))
def f9:AQ:=(ζ [η (.mov 4 (χ false))] (.seq (ζ [η (.mov 5 (φ 0))] (.block 0 f9l23)) (.seq (ζ [θ 24 0,Ω 25 24,η (.bin 26 .gtr (.t 25) (φ 8)),θ 27 26,zAF 27 (.mov 28 (.t 1)),zAF 27 (.len 29 (.t 28)),zAF 27 (.bin 30 .gtr (.t 29) (φ 12)),η (.pick 31 (.t 27) (χ true) (.t 30)),θ 32 31,zAF 32 (.mov 33 (.t 0)),zAF 32 (.call (some 34) 31 [(.t 33)]),zAF 32 (.un 35 .not (.t 34)),η (.pick 36 (.t 32) (χ true) (.t 35))] (.cond (.t 36) (ζ [η (.mov 4 (χ false))] .ret) .skip)) (ζ [θ 38 1,Θ 39 18 38,θ 37 39,Δ 40 37 0,Δ 41 37 1,θ 6 40,θ 7 41] (ζ [θ 42 7,η (.bin 43 .neq (.t 42) (φ 0)),θ 44 43,zAF 44 (.mov 45 (.t 6)),zAF 44 (.bin 46 .leq (.t 45) (φ 128)),η (.pick 47 (.t 44) (χ true) (.t 46)),θ 4 47] .ret)))))
theorem hf9:zH Tryz.prog 9=some ⟨48,f9.erase,[(RX.t 4)]⟩:=by kernel_rfl
theorem okf9:f9.ok=true:=by kernel_rfl
def Υ9:=PLift.up (uu f9.eq_1)
theorem Ψ9:type_of% Υ9.1:=Υ9.1
def f30l17:AQ:=.loop [1,3,4,5,6] [1] (.seq (ζ [θ 66 6,θ 67 5,Ω 68 67,zAB 69 .lss 66 68] (.cond (.t 69) .skip (.exit 4))) (.seq (.block 5 (ζ [θ 72 5,θ 73 6,Ψ 74 1 72 73,ψ 75 1 74,η (.lenS 76 (.t 75)),η (.bin 77 .gtr (.t 76) (φ 100))] (.cond (.t 77) (ζ [η (.mov 2 (χ false))] .ret) .skip))) (.region [θ 70 6,η (.bin 71 .add (.t 70) (φ 1)),θ 6 71])))
def f30l35:AQ:=.loop [1,3,4] [1] (.seq (ζ [θ 42 4,Γ 43 1 1,ψ 44 1 43,θ 45 3,Ψ 46 2 44 45,Γ 47 1 46,ψ 48 1 47,Ω 49 48,zAB 50 .lss 42 49] (.cond (.t 50) .skip (.exit 2))) (.seq (.block 3 (ζ [Γ 53 1 1,ψ 54 1 53,θ 55 3,Ψ 56 2 54 55,Γ 57 1 56,ψ 58 1 57,θ 59 4,Ψ 60 1 58 59,Γ 61 0 60,ψ 62 1 61,θ 5 62] (.seq (ζ [θ 63 5,Ω 64 63,η (.bin 65 .gtr (.t 64) (φ 6))] (.cond (.t 65) (ζ [η (.mov 2 (χ false))] .ret) .skip)) (ζ [η (.mov 6 (φ 0))] (.block 4 f30l17))))) (.region [θ 51 4,η (.bin 52 .add (.t 51) (φ 1)),θ 4 52])))
def f30l51:AQ:=.loop [1,3] [1] (.seq (ζ [θ 17 3,Γ 18 1 1,ψ 19 1 18,Ω 20 19,zAB 21 .lss 17 20] (.cond (.t 21) .skip (.exit 0))) (.seq (.block 1 (.seq (ζ [Γ 24 1 1,ψ 25 1 24,θ 26 3,Ψ 27 2 25 26,Γ 28 1 27,ψ 29 1 28,Ω 30 29,η (.bin 31 .gtr (.t 30) (φ 10)),θ 32 31,zAF 32 (.faddr 33 1 (.t 1)),zAF 32 (.load 34 1 false (.t 33)),zAF 32 (.mov 35 (.t 3)),zAF 32 (.iaddr 36 2 (.t 34) (.t 35)),zAF 32 (.faddr 37 0 (.t 36)),zAF 32 (.load 38 1 false (.t 37)),zAF 32 (.lenS 39 (.t 38)),zAF 32 (.bin 40 .gtr (.t 39) (φ 100)),η (.pick 41 (.t 32) (χ true) (.t 40))] (.cond (.t 41) (ζ [η (.mov 2 (χ false))] .ret) .skip)) (ζ [η (.mov 4 (φ 0))] (.block 2 f30l35)))) (.region [θ 22 3,η (.bin 23 .add (.t 22) (φ 1)),θ 3 23])))
def f30:AQ:=(ζ [zAA 1 58 0,η (.mov 2 (χ false))] (.frz 1 (.seq (ζ [Γ 7 1 1,ψ 8 1 7,Ω 9 8,η (.bin 10 .gtr (.t 9) (φ 14)),θ 11 10,zAF 11 (.faddr 12 0 (.t 1)),zAF 11 (.load 13 1 false (.t 12)),zAF 11 (.lenS 14 (.t 13)),zAF 11 (.bin 15 .gtr (.t 14) (φ 100)),η (.pick 16 (.t 11) (χ true) (.t 15))] (.cond (.t 16) (ζ [η (.mov 2 (χ false))] .ret) .skip)) (.seq (ζ [η (.mov 3 (φ 0))] (.block 0 f30l51)) (ζ [η (.mov 2 (χ true))] .ret)))))
theorem hf30:zH Tryz.prog 30=some ⟨78,f30.erase,[(RX.t 2)]⟩:=by kernel_rfl
theorem okf30:f30.ok=true:=by kernel_rfl
def Υ30:=PLift.up (uu f30.eq_1)
theorem Ψ30:type_of% Υ30.1:=Υ30.1
def f31l15:AQ:=.loop [0,3] [] (.seq (ζ [θ 4 3,θ 5 0,Ω 6 5,zAB 7 .lss 4 6,θ 8 7,zAE 8 (.mov 9 (.t 3)),zAE 8 (.bin 10 .lss (.t 9) (φ 40)),η (.pick 11 (.t 8) (.t 10) (χ false))] (.cond (.t 11) .skip (.exit 0))) (.seq (.block 1 (ζ [θ 14 0,θ 15 3,Ψ 16 8 14 15,Γ 17 5 16,ψ 18 1 17,η (.lenS 19 (.t 18)),η (.bin 20 .gtr (.t 19) (φ 500)),θ 21 20,zAF 21 (.mov 22 (.t 0)),zAF 21 (.mov 23 (.t 3)),zAF 21 (.iaddr 24 8 (.t 22) (.t 23)),zAF 21 (.faddr 25 1 (.t 24)),zAF 21 (.load 26 1 false (.t 25)),zAF 21 (.lenS 27 (.t 26)),zAF 21 (.bin 28 .gtr (.t 27) (φ 60)),η (.pick 29 (.t 21) (χ true) (.t 28)),θ 30 29,zAF 30 (.mov 31 (.t 0)),zAF 30 (.mov 32 (.t 3)),zAF 30 (.iaddr 33 8 (.t 31) (.t 32)),zAF 30 (.faddr 34 2 (.t 33)),zAF 30 (.load 35 1 false (.t 34)),zAF 30 (.lenS 36 (.t 35)),zAF 30 (.bin 37 .gtr (.t 36) (φ 60)),η (.pick 38 (.t 30) (χ true) (.t 37)),θ 39 38,zAF 39 (.mov 40 (.t 0)),zAF 39 (.mov 41 (.t 3)),zAF 39 (.iaddr 42 8 (.t 40) (.t 41)),zAF 39 (.faddr 43 3 (.t 42)),zAF 39 (.load 44 1 false (.t 43)),zAF 39 (.lenS 45 (.t 44)),zAF 39 (.bin 46 .gtr (.t 45) (φ 60)),η (.pick 47 (.t 39) (χ true) (.t 46)),θ 48 47,zAF 48 (.mov 49 (.t 0)),zAF 48 (.mov 50 (.t 3)),zAF 48 (.iaddr 51 8 (.t 49) (.t 50)),zAF 48 (.faddr 52 4 (.t 51)),zAF 48 (.load 53 1 false (.t 52)),zAF 48 (.lenS 54 (.t 53)),zAF 48 (.bin 55 .gtr (.t 54) (φ 60)),η (.pick 56 (.t 48) (χ true) (.t 55))] (.cond (.t 56) (ζ [η (.mov 2 (χ false))] .ret) .skip))) (.region [θ 12 3,η (.bin 13 .add (.t 12) (φ 1)),θ 3 13])))
def f31:AQ:=(ζ [η (.mov 2 (χ false))] (.seq (ζ [η (.mov 3 (φ 0))] (.block 0 f31l15)) (ζ [θ 57 0,Ω 58 57,η (.bin 59 .leq (.t 58) (φ 30)),θ 2 59] .ret)))
theorem hf31:zH Tryz.prog 31=some ⟨60,f31.erase,[(RX.t 2)]⟩:=by kernel_rfl
theorem okf31:f31.ok=true:=by kernel_rfl
def Υ31:=PLift.up (uu f31.eq_1)
theorem Ψ31:type_of% Υ31.1:=Υ31.1
def f18l19:AQ:=.loop [0,6,7] [] (.seq (ζ [θ 27 7,θ 28 0,Ω 29 28,zAB 30 .lss 27 29] (.cond (.t 30) .skip (.exit 2))) (.seq (.block 3 (ζ [θ 34 0,θ 35 7,Ψ 36 2 34 35,ω 37 2 36,Θ 38 42 37,θ 33 38,Δ 39 33 0,Δ 40 33 1,θ 8 39,θ 9 40] (.seq (ζ [θ 41 9,η (.bin 42 .neq (.t 41) (φ 0)),θ 43 42,zAF 43 (.mov 44 (.t 6)),zAF 43 (.mov 45 (.t 8)),zAF 43 (.bin 46 .mul (.t 44) (.t 45)),zAF 43 (.bin 47 .gtr (.t 46) (φ 4096)),η (.pick 48 (.t 43) (χ true) (.t 47))] (.cond (.t 48) (ζ [η (.mov 2 (φ 0)),η (.mov 3 (φ 6))] .ret) .skip)) (.region [θ 49 6,θ 50 8,zAB 51 .mul 49 50,θ 6 51])))) (.region [θ 31 7,η (.bin 32 .add (.t 31) (φ 1)),θ 7 32])))
def f18l40:AQ:=.loop [0,4] [] (.seq (ζ [θ 13 4,θ 14 0,Ω 15 14,zAB 16 .lss 13 15] (.cond (.t 16) .skip (.exit 0))) (.seq (.block 1 (ζ [θ 19 0,θ 20 4,Ψ 21 2 19 20,ω 22 2 21,Θ 23 41 22,θ 5 23] (ζ [θ 24 5,η (.bin 25 .neq (.t 24) (φ 0))] (.cond (.t 25) (ζ [θ 26 5,η (.mov 2 (φ 0)),θ 3 26] .ret) .skip)))) (.region [θ 17 4,η (.bin 18 .add (.t 17) (φ 1)),θ 4 18])))
def f18:AQ:=(ζ [η (.mov 2 (φ 0)),η (.mov 3 (φ 0))] (.seq (ζ [θ 10 0,Ω 11 10,η (.bin 12 .gtr (.t 11) (φ 8))] (.cond (.t 12) (ζ [η (.mov 2 (φ 0)),η (.mov 3 (φ 6))] .ret) .skip)) (.seq (ζ [η (.mov 4 (φ 0))] (.block 0 f18l40)) (ζ [η (.mov 6 (φ 1))] (.seq (ζ [η (.mov 7 (φ 0))] (.block 2 f18l19)) (ζ [θ 52 6,θ 2 52,η (.mov 3 (φ 0))] .ret))))))
theorem hf18:zH Tryz.prog 18=some ⟨53,f18.erase,[(RX.t 2),(RX.t 3)]⟩:=by kernel_rfl
theorem okf18:f18.ok=true:=by kernel_rfl
def Υ18:=PLift.up (uu f18.eq_1)
theorem Ψ18:type_of% Υ18.1:=Υ18.1
def f41l18:AQ:=.loop [1,3,4,6] [1,4] (.seq (ζ [θ 50 6,Γ 51 1 4,ψ 52 1 51,Ω 53 52,zAB 54 .lss 50 53] (.cond (.t 54) .skip (.exit 4))) (.seq (.block 5 (ζ [Γ 57 1 4,ψ 58 1 57,θ 59 6,Ψ 60 1 58 59,Γ 61 0 60,ψ 62 1 61,Θ 63 81 62,θ 7 63] (ζ [θ 64 7,η (.bin 65 .neq (.t 64) (φ 0))] (.cond (.t 65) (ζ [θ 66 7,θ 2 66] .ret) .skip)))) (.region [θ 55 6,η (.bin 56 .add (.t 55) (φ 1)),θ 6 56])))
def f41l40:AQ:=.loop [1,3,4,5] [1,4] (.seq (ζ [θ 32 5,θ 33 3,zAB 34 .lss 32 33] (.cond (.t 34) .skip (.exit 2))) (.seq (.block 3 (.seq (.draw [Γ 37 1 1,ψ 38 1 37,θ 39 5,Ψ 40 2 38 39,Γ 41 0 40,ψ 42 1 41,Γ 43 0 4,ψ 44 1 43,zAB 45 .eql 42 44] [[],[0],[],[1,2],[3],[4],[],[6],[5,7]]) (.cond (.t 45) (ζ [η (.mov 2 (φ 5))] .ret) .skip))) (.region [θ 35 5,η (.bin 36 .add (.t 35) (φ 1)),θ 5 36])))
def f41l59:AQ:=.loop [1,3] [1] (.seq (ζ [θ 16 3,Γ 17 1 1,ψ 18 1 17,Ω 19 18,zAB 20 .lss 16 19] (.cond (.t 20) .skip (.exit 0))) (.seq (.block 1 (ζ [Γ 23 1 1,ψ 24 1 23,θ 25 3,Ψ 26 2 24 25,ω 27 2 26,η (.alloc 4 107 [(.str []),(.list 0 (some true) [])]),Φ 2 4 27] (.frz 4 (.seq (ζ [Γ 28 0 4,ψ 29 1 28,Θ 30 80 29,η (.un 31 .not (.t 30))] (.cond (.t 31) (ζ [η (.mov 2 (φ 2))] .ret) .skip)) (.seq (ζ [η (.mov 5 (φ 0))] (.block 2 f41l40)) (.seq (ζ [Γ 46 1 4,ψ 47 1 46,Ω 48 47,η (.bin 49 .gtr (.t 48) (φ 8))] (.cond (.t 49) (ζ [η (.mov 2 (φ 6))] .ret) .skip)) (ζ [η (.mov 6 (φ 0))] (.block 4 f41l18)))))))) (.region [θ 21 3,η (.bin 22 .add (.t 21) (φ 1)),θ 3 22])))
def f41:AQ:=(ζ [zAA 1 58 0,η (.mov 2 (φ 0))] (.frz 1 (.seq (ζ [Γ 8 0 1,ψ 9 1 8,Θ 10 80 9,η (.un 11 .not (.t 10))] (.cond (.t 11) (ζ [η (.mov 2 (φ 2))] .ret) .skip)) (.seq (ζ [Γ 12 1 1,ψ 13 1 12,Ω 14 13,η (.bin 15 .gtr (.t 14) (φ 12))] (.cond (.t 15) (ζ [η (.mov 2 (φ 6))] .ret) .skip)) (.seq (ζ [η (.mov 3 (φ 0))] (.block 0 f41l59)) (ζ [η (.mov 2 (φ 0))] .ret))))))
theorem hf41:zH Tryz.prog 41=some ⟨67,f41.erase,[(RX.t 2)]⟩:=by kernel_rfl
theorem okf41:f41.ok=true:=by kernel_rfl
def Υ41:=PLift.up (uu f41.eq_1)
theorem Ψ41:type_of% Υ41.1:=Υ41.1
def f42l17:AQ:=.loop [1,5,6] [1] (.seq (ζ [θ 12 6,Γ 13 1 1,ψ 14 1 13,Ω 15 14,zAB 16 .lss 12 15] (.cond (.t 16) .skip (.exit 0))) (.seq (.block 1 (ζ [θ 19 5,Γ 20 1 1,ψ 21 1 20,θ 22 6,Ψ 23 2 21 22,ω 24 2 23,Θ 25 82 24,zAB 26 .mul 19 25,θ 5 26] (ζ [θ 27 5,η (.bin 28 .gtr (.t 27) (φ 4096))] (.cond (.t 28) (ζ [η (.mov 2 (φ 0)),η (.mov 3 (φ 6))] .ret) .skip)))) (.region [θ 17 6,η (.bin 18 .add (.t 17) (φ 1)),θ 6 18])))
def f42:AQ:=(ζ [zAA 1 58 0,η (.mov 2 (φ 0)),η (.mov 3 (φ 0))] (.frz 1 (ζ [ω 7 2 1,Θ 8 41 7,θ 4 8] (.seq (ζ [θ 9 4,η (.bin 10 .neq (.t 9) (φ 0))] (.cond (.t 10) (ζ [θ 11 4,η (.mov 2 (φ 0)),θ 3 11] .ret) .skip)) (ζ [η (.mov 5 (φ 1))] (.seq (ζ [η (.mov 6 (φ 0))] (.block 0 f42l17)) (ζ [θ 29 5,θ 2 29,η (.mov 3 (φ 0))] .ret)))))))
theorem hf42:zH Tryz.prog 42=some ⟨30,f42.erase,[(RX.t 2),(RX.t 3)]⟩:=by kernel_rfl
theorem okf42:f42.ok=true:=by kernel_rfl
def Υ42:=PLift.up (uu f42.eq_1)
theorem Ψ42:type_of% Υ42.1:=Υ42.1
def f80l15:AQ:=.loop [0,3] [] (.seq (ζ [θ 18 3,θ 19 0,η (.lenS 20 (.t 19)),zAB 21 .lss 18 20] (.cond (.t 21) .skip (.exit 0))) (.seq (.block 1 (ζ [θ 24 0,θ 25 3,η (.sidx 26 (.t 24) (.t 25)),Θ 27 113 26,η (.un 28 .not (.t 27)),θ 29 28,zAE 29 (.mov 30 (.t 0)),zAE 29 (.mov 31 (.t 3)),zAE 29 (.sidx 32 (.t 30) (.t 31)),zAE 29 (.call (some 33) 114 [(.t 32)]),zAE 29 (.un 34 .not (.t 33)),η (.pick 35 (.t 29) (.t 34) (χ false)),θ 36 35,zAE 36 (.mov 37 (.t 0)),zAE 36 (.mov 38 (.t 3)),zAE 36 (.sidx 39 (.t 37) (.t 38)),zAE 36 (.bin 40 .neq (.t 39) (.v (.k (.c (.int .u8 95))))),η (.pick 41 (.t 36) (.t 40) (χ false))] (.cond (.t 41) (ζ [η (.mov 2 (χ false))] .ret) .skip))) (.region [θ 22 3,η (.bin 23 .add (.t 22) (φ 1)),θ 3 23])))
def f80:AQ:=(ζ [η (.mov 2 (χ false))] (.seq (ζ [θ 4 0,η (.lenS 5 (.t 4)),η (.bin 6 .lss (.t 5) (φ 1)),θ 7 6,zAF 7 (.mov 8 (.t 0)),zAF 7 (.lenS 9 (.t 8)),zAF 7 (.bin 10 .gtr (.t 9) (φ 20)),η (.pick 11 (.t 7) (χ true) (.t 10)),θ 12 11,zAF 12 (.mov 13 (.t 0)),zAF 12 (.sidx 14 (.t 13) (φ 0)),zAF 12 (.call (some 15) 113 [(.t 14)]),zAF 12 (.un 16 .not (.t 15)),η (.pick 17 (.t 12) (χ true) (.t 16))] (.cond (.t 17) (ζ [η (.mov 2 (χ false))] .ret) .skip)) (.seq (ζ [η (.mov 3 (φ 1))] (.block 0 f80l15)) (ζ [η (.mov 2 (χ true))] .ret))))
theorem hf80:zH Tryz.prog 80=some ⟨42,f80.erase,[(RX.t 2)]⟩:=by kernel_rfl
theorem okf80:f80.ok=true:=by kernel_rfl
def Υ80:=PLift.up (uu f80.eq_1)
theorem Ψ80:type_of% Υ80.1:=Υ80.1
def f81l16:AQ:=.loop [0,4,5] [] (.seq (ζ [θ 30 5,θ 31 4,zAB 32 .lss 30 31] (.cond (.t 32) .skip (.exit 4))) (.seq (.block 5 (.seq (.draw [θ 35 0,θ 36 4,Ψ 37 1 35 36,ψ 38 1 37,θ 39 0,θ 40 5,Ψ 41 1 39 40,ψ 42 1 41,zAB 43 .eql 38 42] [[],[],[0,1],[2],[],[],[4,5],[6],[3,7]]) (.cond (.t 43) (ζ [η (.mov 2 (φ 5))] .ret) .skip))) (.region [θ 33 5,η (.bin 34 .add (.t 33) (φ 1)),θ 5 34])))
def f81l26:AQ:=.loop [0,4] [] (.seq (ζ [θ 24 4,θ 25 0,Ω 26 25,zAB 27 .lss 24 26] (.cond (.t 27) .skip (.exit 2))) (.seq (.block 3 (ζ [η (.mov 5 (φ 0))] (.block 4 f81l16))) (.region [θ 28 4,η (.bin 29 .add (.t 28) (φ 1)),θ 4 29])))
def f81l43:AQ:=.loop [0,3] [] (.seq (ζ [θ 12 3,θ 13 0,Ω 14 13,zAB 15 .lss 12 14] (.cond (.t 15) .skip (.exit 0))) (.seq (.block 1 (ζ [θ 18 0,θ 19 3,Ψ 20 1 18 19,ψ 21 1 20,Θ 22 115 21,η (.un 23 .not (.t 22))] (.cond (.t 23) (ζ [η (.mov 2 (φ 2))] .ret) .skip))) (.region [θ 16 3,η (.bin 17 .add (.t 16) (φ 1)),θ 3 17])))
def f81:AQ:=(ζ [η (.mov 2 (φ 0))] (.seq (ζ [θ 6 0,Ω 7 6,η (.bin 8 .gtr (.t 7) (φ 4))] (.cond (.t 8) (ζ [η (.mov 2 (φ 6))] .ret) .skip)) (.seq (ζ [θ 9 0,Ω 10 9,η (.bin 11 .eql (.t 10) (φ 0))] (.cond (.t 11) (ζ [η (.mov 2 (φ 4))] .ret) .skip)) (.seq (ζ [η (.mov 3 (φ 0))] (.block 0 f81l43)) (.seq (ζ [η (.mov 4 (φ 0))] (.block 2 f81l26)) (ζ [η (.mov 2 (φ 0))] .ret))))))
theorem hf81:zH Tryz.prog 81=some ⟨44,f81.erase,[(RX.t 2)]⟩:=by kernel_rfl
theorem okf81:f81.ok=true:=by kernel_rfl
def Υ81:=PLift.up (uu f81.eq_1)
theorem Ψ81:type_of% Υ81.1:=Υ81.1
def f82l11:AQ:=.loop [1,3,4] [1] (.seq (ζ [θ 5 4,Γ 6 1 1,ψ 7 1 6,Ω 8 7,zAB 9 .lss 5 8] (.cond (.t 9) .skip (.exit 0))) (.seq (.block 1 (.region [θ 12 3,Γ 13 1 1,ψ 14 1 13,θ 15 4,Ψ 16 1 14 15,Γ 17 0 16,ψ 18 1 17,Ω 19 18,zAB 20 .mul 12 19,θ 3 20])) (.region [θ 10 4,η (.bin 11 .add (.t 10) (φ 1)),θ 4 11])))
def f82:AQ:=(ζ [zAA 1 107 0,η (.mov 2 (φ 0))] (.frz 1 (ζ [η (.mov 3 (φ 1))] (.seq (ζ [η (.mov 4 (φ 0))] (.block 0 f82l11)) (ζ [θ 21 3,θ 2 21] .ret)))))
theorem hf82:zH Tryz.prog 82=some ⟨22,f82.erase,[(RX.t 2)]⟩:=by kernel_rfl
theorem okf82:f82.ok=true:=by kernel_rfl
def Υ82:=PLift.up (uu f82.eq_1)
theorem Ψ82:type_of% Υ82.1:=Υ82.1
def f113:AQ:=(ζ [η (.mov 2 (χ false))] (ζ [θ 3 0,η (.bin 4 .geq (.t 3) (.v (.k (.c (.int .u8 97))))),θ 5 4,zAE 5 (.mov 6 (.t 0)),zAE 5 (.bin 7 .leq (.t 6) (.v (.k (.c (.int .u8 122))))),η (.pick 8 (.t 5) (.t 7) (χ false)),θ 9 8,zAF 9 (.mov 10 (.t 0)),zAF 9 (.bin 11 .geq (.t 10) (.v (.k (.c (.int .u8 65))))),zAF 9 (.mov 12 (.t 11)),zAE 12 (.mov 13 (.t 0)),zAE 12 (.bin 14 .leq (.t 13) (.v (.k (.c (.int .u8 90))))),zAF 9 (.pick 15 (.t 12) (.t 14) (χ false)),η (.pick 16 (.t 9) (χ true) (.t 15)),θ 2 16] .ret))
theorem hf113:zH Tryz.prog 113=some ⟨17,f113.erase,[(RX.t 2)]⟩:=by kernel_rfl
theorem okf113:f113.ok=true:=by kernel_rfl
def Υ113:=PLift.up (uu f113.eq_1)
theorem Ψ113:type_of% Υ113.1:=Υ113.1
def f114:AQ:=(ζ [η (.mov 2 (χ false))] (ζ [θ 3 0,η (.bin 4 .geq (.t 3) (.v (.k (.c (.int .u8 48))))),θ 5 4,zAE 5 (.mov 6 (.t 0)),zAE 5 (.bin 7 .leq (.t 6) (.v (.k (.c (.int .u8 57))))),η (.pick 8 (.t 5) (.t 7) (χ false)),θ 2 8] .ret))
theorem hf114:zH Tryz.prog 114=some ⟨9,f114.erase,[(RX.t 2)]⟩:=by kernel_rfl
theorem okf114:f114.ok=true:=by kernel_rfl
def Υ114:=PLift.up (uu f114.eq_1)
theorem Ψ114:type_of% Υ114.1:=Υ114.1
def f115l15:AQ:=.loop [0,3] [] (.seq (ζ [θ 4 3,θ 5 0,η (.lenS 6 (.t 5)),zAB 7 .lss 4 6] (.cond (.t 7) .skip (.exit 0))) (.seq (.block 1 (ζ [θ 10 0,θ 11 3,η (.sidx 12 (.t 10) (.t 11)),η (.bin 13 .lss (.t 12) (.v (.k (.c (.int .u8 33))))),θ 14 13,zAF 14 (.mov 15 (.t 0)),zAF 14 (.mov 16 (.t 3)),zAF 14 (.sidx 17 (.t 15) (.t 16)),zAF 14 (.bin 18 .gtr (.t 17) (.v (.k (.c (.int .u8 126))))),η (.pick 19 (.t 14) (χ true) (.t 18))] (.cond (.t 19) (ζ [η (.mov 2 (χ false))] .ret) .skip))) (.region [θ 8 3,η (.bin 9 .add (.t 8) (φ 1)),θ 3 9])))
def f115:AQ:=(ζ [η (.mov 2 (χ false))] (.seq (ζ [η (.mov 3 (φ 0))] (.block 0 f115l15)) (ζ [θ 20 0,η (.lenS 21 (.t 20)),η (.bin 22 .geq (.t 21) (φ 1)),θ 23 22,zAE 23 (.mov 24 (.t 0)),zAE 23 (.lenS 25 (.t 24)),zAE 23 (.bin 26 .leq (.t 25) (φ 20)),η (.pick 27 (.t 23) (.t 26) (χ false)),θ 2 27] .ret)))
theorem hf115:zH Tryz.prog 115=some ⟨28,f115.erase,[(RX.t 2)]⟩:=by kernel_rfl
theorem okf115:f115.ok=true:=by kernel_rfl
def Υ115:=PLift.up (uu f115.eq_1)
theorem Ψ115:type_of% Υ115.1:=Υ115.1
def f19r5o0:AI:=.mk none (.mov 50 (.t 0))
def f19r5o1:AI:=.mk none (.mov 51 (.t 10))
def f19r5o2:AI:=.mk none (.iaddr 52 2 (.t 50) (.t 51))
def f19r5o3:AI:=.mk none (.load 53 2 true (.t 52))
def f19r5o4:AI:=.mk none (.mov 54 (.t 1))
def f19r5o5:AI:=.mk none (.mov 55 (.t 9))
def f19r5o6:AI:=.mk none (.bin 56 .quo (.t 54) (.t 55))
def f19r5o7:AI:=.mk none (.mov 57 (.t 11))
def f19r5o8:AI:=.mk none (.bin 58 .rem (.t 56) (.t 57))
def f19r5o9:AI:=.mk none (.call (some 59) 43 [(.t 53),(.t 58)])
def f19r5o10:AI:=.mk none (.mov 49 (.t 59))
def f19r5o11:AI:=.mk none (.extr 60 (.t 49) 0)
def f19r5o12:AI:=.mk none (.extr 61 (.t 49) 1)
def f19r5o13:AI:=.mk none (.alloc 13 53 [(.str []),(.list 0 (some true) []),(.list 0 (some true) [])])
def f19r5o14:AI:=.mk none (.store 3 (.t 13) (.t 60))
def f19r5o15:AI:=.mk none (.mov 14 (.t 61))
def f19r5:LA:=[f19r5o0,f19r5o1,f19r5o2,f19r5o3,f19r5o4,f19r5o5,f19r5o6,f19r5o7,f19r5o8,f19r5o9,f19r5o10,f19r5o11,f19r5o12,f19r5o13,f19r5o14,f19r5o15]
theorem zof:nI f19r5 [[],[],[0,1],[2],[],[],[4,5],[],[6,7],[3,8],[9],[10],[10],[],[13,11,9,0,1,2,3,4,5,6,7,8,9,10,11,13],[12,14,0,1,2,3,4,5,6,7,8,9,10,11,12,13,14]]=(.one f19r5o13 (.one f19r5o0 (.one f19r5o1 (.one f19r5o2 (.one f19r5o3 (.one f19r5o4 (.one f19r5o5 (.one f19r5o6 (.one f19r5o7 (.one f19r5o8 (.one f19r5o9 (.one f19r5o10 (.one f19r5o11 (.alt (.one f19r5o12 (.one f19r5o14 (.one f19r5o15 .done))) (.alt (.one f19r5o14 (.one f19r5o12 (.one f19r5o15 .done))) .top))))))))))))))):=by kernel_rfl
def f19l17:AQ:=.loop [0,1,8,9,10] [30,65] (.seq (ζ [θ 32 10,θ 33 0,Ω 34 33,zAB 35 .lss 32 34] (.cond (.t 35) .skip (.exit 0))) (.seq (.block 1 (ζ [θ 39 0,θ 40 10,Ψ 41 2 39 40,ω 42 2 41,Θ 43 42 42,θ 38 43,Δ 44 38 0,Δ 45 38 1,θ 11 44,θ 12 45] (ζ [θ 46 9,θ 47 11,zAB 48 .quo 46 47,θ 9 48] (.seq (.tree f19r5 [[],[],[0,1],[2],[],[],[4,5],[],[6,7],[3,8],[9],[10],[10],[],[13,11,9,0,1,2,3,4,5,6,7,8,9,10,11,13],[12,14,0,1,2,3,4,5,6,7,8,9,10,11,12,13,14]]) (.keep [0,1,8,9,10,13] [13,30,59,65,60000,60001,60002] (.region [θ 62 8,ω 63 3 13,η (.bslice 64 53 3 [(.str []),(.list 0 (some true) []),(.list 0 (some true) [])] 1 [(0,(.t 63))]),η (.append 65 53 3 64 (.t 62) (.t 64)),θ 8 65])))))) (.region [θ 36 10,η (.bin 37 .add (.t 36) (φ 1)),θ 10 37])))
def f19:AQ:=(ζ [η (.nilL 4 53 3),η (.mov 5 (φ 0))] (ζ [θ 16 0,Θ 17 18 16,θ 15 17,Δ 18 15 0,Δ 19 15 1,θ 6 18,θ 7 19] (.seq (ζ [θ 20 7,η (.bin 21 .neq (.t 20) (φ 0))] (.cond (.t 21) (ζ [θ 22 7,η (.nilL 4 53 3),θ 5 22] .ret) .skip)) (.seq (ζ [θ 23 1,η (.bin 24 .lss (.t 23) (φ 0)),θ 25 24,zAF 25 (.mov 26 (.t 1)),zAF 25 (.mov 27 (.t 6)),zAF 25 (.bin 28 .geq (.t 26) (.t 27)),η (.pick 29 (.t 25) (χ true) (.t 28))] (.cond (.t 29) (ζ [η (.nilL 4 53 3),η (.mov 5 (φ 4))] .ret) .skip)) (ζ [η (.bslice 30 53 3 [(.str []),(.list 0 (some true) []),(.list 0 (some true) [])] 0 []),θ 8 30] (ζ [θ 31 6,θ 9 31] (.seq (ζ [η (.mov 10 (φ 0))] (.block 0 f19l17)) (ζ [θ 66 8,θ 4 66,η (.mov 5 (φ 0))] .ret))))))))
theorem hf19:zH Tryz.prog 19=some ⟨67,f19.erase,[(RX.t 4),(RX.t 5)]⟩:=by kernel_rfl
theorem okf19:f19.ok=true:=by kernel_rfl
def Υ19:=PLift.up (uu f19.eq_1)
theorem Ψ19:type_of% Υ19.1:=Υ19.1
def f21:AQ:=(ζ [η (.mov 4 (φ 0))] (ζ [θ 10 0,Θ 11 44 10,θ 9 11,Δ 12 9 0,Δ 13 9 1,θ 5 12,θ 6 13] (.seq (ζ [θ 14 6,η (.un 15 .not (.t 14))] (.cond (.t 15) (ζ [η (.mov 4 (φ 2))] .ret) .skip)) (ζ [θ 17 1,Θ 18 18 17,θ 16 18,Δ 19 16 0,Δ 20 16 1,θ 7 19,θ 8 20] (.seq (ζ [θ 21 8,η (.bin 22 .neq (.t 21) (φ 0))] (.cond (.t 22) (ζ [θ 23 8,θ 4 23] .ret) .skip)) (.seq (ζ [θ 24 0,θ 25 1,θ 26 7,η (.call (some 27) 47 [(.t 24),(.t 25),(.t 26)]),θ 28 0,Ω 29 28,Ξ 30 46 27 29,Θ 31 45 30,η (.bin 32 .gtr (.t 31) (φ 10))] (.cond (.t 32) (ζ [η (.mov 4 (φ 6))] .ret) .skip)) (ζ [η (.mov 4 (φ 0))] .ret)))))))
theorem hf21:zH Tryz.prog 21=some ⟨33,f21.erase,[(RX.t 4)]⟩:=by kernel_rfl
theorem okf21:f21.ok=true:=by kernel_rfl
def Υ21:=PLift.up (uu f21.eq_1)
theorem Ψ21:type_of% Υ21.1:=Υ21.1
def f23l11:AQ:=.loop [0,1,11,13,14] [34,56,61,84,62000,62001,62002] (.seq (ζ [θ 62 14,θ 63 13,Ω 64 63,zAB 65 .lss 62 64] (.cond (.t 65) .skip (.exit 2))) (.seq (.block 3 (.draw [θ 68 11,θ 69 13,θ 70 14,Ψ 71 1 69 70,ψ 72 1 71,η (.bslice 73 3 1 [(.int .i64 0)] 1 [(0,(.t 72))]),θ 74 0,θ 75 1,θ 76 13,θ 77 14,Ψ 78 1 76 77,ψ 79 1 78,η (.bin 80 .shl (φ 1) (.t 79)),η (.call (some 81) 51 [(.t 74),(.t 75),(.t 80)]),η (.build 82 [(.list 0 (some true) []),(.list 0 (some true) []),(.bool false)] [(0,(1,(.t 73))),(1,(1,(.t 81)))]),η (.bslice 83 33 3 [(.list 0 (some true) []),(.list 0 (some true) []),(.bool false)] 1 [(0,(.t 82))]),η (.append 84 33 3 56 (.t 68) (.t 83)),θ 11 84] [[],[],[],[1,2],[3],[4],[],[],[],[],[8,9],[10],[11],[6,7,12],[5,13],[14],[0,15,13],[16,16,0,1,2,3,4,5,6,7,8,9,10,11,12,13,14,15,16]])) (.region [θ 66 14,η (.bin 67 .add (.t 66) (φ 1)),θ 14 67])))
def f23l26:AQ:=.loop [0,1,9,10,11,12] [29,33,34,56,84,30000,30001,30002,34000,34001,34002] (.seq (ζ [θ 35 12,θ 36 10,Ω 37 36,zAB 38 .lss 35 37] (.cond (.t 38) .skip (.exit 0))) (.seq (.block 1 (.draw [θ 41 11,θ 42 10,θ 43 12,Ψ 44 1 42 43,ψ 45 1 44,Θ 46 50 45,θ 47 0,θ 48 1,θ 49 10,θ 50 12,Ψ 51 1 49 50,ψ 52 1 51,η (.call (some 53) 51 [(.t 47),(.t 48),(.t 52)]),η (.build 54 [(.list 0 (some true) []),(.list 0 (some true) []),(.bool false)] [(0,(1,(.t 46))),(1,(1,(.t 53))),(2,(1,(χ true)))]),η (.bslice 55 33 3 [(.list 0 (some true) []),(.list 0 (some true) []),(.bool false)] 1 [(0,(.t 54))]),η (.append 56 33 3 56 (.t 41) (.t 55)),θ 11 56] [[],[],[],[1,2],[3],[4],[],[],[],[],[8,9],[10],[6,7,11,5],[5,12],[13],[0,14,12],[15,15,0,1,2,3,4,5,6,7,8,9,10,11,12,13,14,15]])) (.region [θ 39 12,η (.bin 40 .add (.t 39) (φ 1)),θ 12 40])))
def f23:AQ:=(ζ [η (.nilL 4 33 3),η (.mov 5 (φ 0))] (ζ [θ 15 0,θ 16 1,Ξ 17 21 15 16,θ 6 17] (.seq (ζ [θ 18 6,η (.bin 19 .neq (.t 18) (φ 0))] (.cond (.t 19) (ζ [θ 20 6,η (.nilL 4 33 3),θ 5 20] .ret) .skip)) (ζ [θ 22 1,Θ 23 18 22,θ 21 23,Δ 24 21 0,Δ 25 21 1,θ 7 24,θ 8 25] (ζ [θ 26 0,θ 27 1,θ 28 7,η (.call (some 29) 47 [(.t 26),(.t 27),(.t 28)]),θ 9 29] (ζ [θ 30 9,θ 31 0,Ω 32 31,Ξ 33 49 30 32,θ 10 33] (ζ [η (.bslice 34 33 3 [(.list 0 (some true) []),(.list 0 (some true) []),(.bool false)] 0 []),θ 11 34] (.seq (ζ [η (.mov 12 (φ 0))] (.block 0 f23l26)) (ζ [θ 57 9,θ 58 0,Ω 59 58,Ξ 60 46 57 59,Θ 61 50 60,θ 13 61] (.seq (ζ [η (.mov 14 (φ 0))] (.block 2 f23l11)) (ζ [θ 85 11,θ 4 85,η (.mov 5 (φ 0))] .ret)))))))))))
theorem hf23:zH Tryz.prog 23=some ⟨86,f23.erase,[(RX.t 4),(RX.t 5)]⟩:=by kernel_rfl
theorem okf23:f23.ok=true:=by kernel_rfl
def Υ23:=PLift.up (uu f23.eq_1)
theorem Ψ23:type_of% Υ23.1:=Υ23.1
def f24l26:AQ:=.loop [9,10,11] [26,27000,27001,27002] (.seq (ζ [θ 27 11,θ 28 9,Ω 29 28,zAB 30 .lss 27 29] (.cond (.t 30) .skip (.exit 0))) (.seq (.block 1 (ζ [θ 33 9,θ 34 11,Ψ 35 1 33 34,ψ 36 1 35,η (.bin 37 .eql (.t 36) (φ 0))] (.cond (.t 37) (.region [θ 38 10,η (.bin 39 .add (.t 38) (φ 1)),θ 10 39]) .skip))) (.region [θ 31 11,η (.bin 32 .add (.t 31) (φ 1)),θ 11 32])))
def f24:AQ:=(ζ [η (.mov 4 (φ 0)),η (.mov 5 (φ 0))] (ζ [θ 12 0,θ 13 1,Ξ 14 21 12 13,θ 6 14] (.seq (ζ [θ 15 6,η (.bin 16 .neq (.t 15) (φ 0))] (.cond (.t 16) (ζ [θ 17 6,η (.mov 4 (φ 0)),θ 5 17] .ret) .skip)) (ζ [θ 19 1,Θ 20 18 19,θ 18 20,Δ 21 18 0,Δ 22 18 1,θ 7 21,θ 8 22] (ζ [θ 23 0,θ 24 1,θ 25 7,η (.call (some 26) 47 [(.t 23),(.t 24),(.t 25)]),θ 9 26] (ζ [η (.mov 10 (φ 0))] (.seq (ζ [η (.mov 11 (φ 0))] (.block 0 f24l26)) (.seq (ζ [θ 40 10,η (.bin 41 .eql (.t 40) (φ 0))] (.cond (.t 41) (ζ [η (.mov 4 (φ 0)),η (.mov 5 (φ 0))] .ret) .skip)) (.seq (ζ [θ 42 10,θ 43 9,Ω 44 43,zAB 45 .eql 42 44] (.cond (.t 45) (ζ [η (.mov 4 (φ 1)),η (.mov 5 (φ 0))] .ret) .skip)) (ζ [η (.mov 4 (φ 2)),η (.mov 5 (φ 0))] .ret))))))))))
theorem hf24:zH Tryz.prog 24=some ⟨46,f24.erase,[(RX.t 4),(RX.t 5)]⟩:=by kernel_rfl
theorem okf24:f24.ok=true:=by kernel_rfl
def Υ24:=PLift.up (uu f24.eq_1)
theorem Ψ24:type_of% Υ24.1:=Υ24.1
def f43l17:AQ:=.loop [1,2,4,6,8,9] [2,4,8,54,68,43001,43002] (.seq (ζ [θ 30 9,Γ 31 1 2,ψ 32 1 31,Ω 33 32,zAB 34 .lss 30 33] (.cond (.t 34) .skip (.exit 0))) (.seq (.block 1 (ζ [θ 37 6,Γ 38 1 2,ψ 39 1 38,θ 40 9,Ψ 41 2 39 40,ω 42 2 41,Θ 43 82 42,zAB 44 .quo 37 43,θ 6 44] (.seq (.draw [Γ 45 1 8,ψ 46 1 45,Γ 47 1 2,ψ 48 1 47,θ 49 9,Ψ 50 2 48 49,Γ 51 0 50,ψ 52 1 51,η (.bslice 53 9 1 [(.str [])] 1 [(0,(.t 52))]),η (.append 54 9 1 16 (.t 46) (.t 53)),Γ 55 1 8,Φ 1 55 54] [[],[0],[],[2],[],[3,4],[5],[6],[7],[1,8],[0,1,2,3,4,5,6,7,8,9],[10,9,9,0,1,2,3,4,5,6,7,8,9]]) (.seq (.draw [Γ 56 2 8,ψ 57 1 56,Γ 58 1 2,ψ 59 1 58,θ 60 9,Ψ 61 2 59 60,ω 62 2 61,θ 63 1,θ 64 6,zAB 65 .quo 63 64,Ξ 66 83 62 65,η (.bslice 67 9 1 [(.str [])] 1 [(0,(.t 66))]),η (.append 68 9 1 16 (.t 57) (.t 67)),Γ 69 2 8,Φ 1 69 68] [[],[0],[],[2],[],[3,4],[5],[],[],[7,8],[6,9],[10],[1,11,10],[0,1,2,3,4,5,6,7,8,9,10,11,12],[13,12,12,0,1,2,3,4,5,6,7,8,9,10,11,12]]) (.region [θ 70 1,θ 71 6,zAB 72 .rem 70 71,θ 1 72]))))) (.region [θ 35 9,η (.bin 36 .add (.t 35) (φ 1)),θ 9 36])))
def f43:AQ:=(ζ [zAA 2 58 0,η (.alloc 4 53 [(.str []),(.list 0 (some true) []),(.list 0 (some true) [])]),η (.mov 5 (φ 0))] (.frz 2 (ζ [ω 11 2 2,Θ 12 42 11,θ 10 12,Δ 13 10 0,Δ 14 10 1,θ 6 13,θ 7 14] (.seq (ζ [θ 15 7,η (.bin 16 .neq (.t 15) (φ 0))] (.cond (.t 16) (ζ [η (.build 17 [(.str []),(.list 0 (some true) []),(.list 0 (some true) [])] []),θ 18 7,Φ 3 4 17,θ 5 18] .ret) .skip)) (.seq (ζ [θ 19 1,η (.bin 20 .lss (.t 19) (φ 0)),θ 21 20,zAF 21 (.mov 22 (.t 1)),zAF 21 (.mov 23 (.t 6)),zAF 21 (.bin 24 .geq (.t 22) (.t 23)),η (.pick 25 (.t 21) (χ true) (.t 24))] (.cond (.t 25) (ζ [η (.build 26 [(.str []),(.list 0 (some true) []),(.list 0 (some true) [])] []),Φ 3 4 26,η (.mov 5 (φ 4))] .ret) .skip)) (ζ [Γ 27 0 2,ψ 28 1 27,η (.build 29 [(.str []),(.list 0 (some true) []),(.list 0 (some true) [])] [(0,(1,(.t 28)))]),η (.alloc 8 53 [(.str []),(.list 0 (some true) []),(.list 0 (some true) [])]),Φ 3 8 29] (.own 8 43002 9 1 (.own 8 43001 9 1 (.seq (ζ [η (.mov 9 (φ 0))] (.block 0 f43l17)) (ζ [ω 73 3 8,Φ 3 4 73,η (.mov 5 (φ 0))] .ret))))))))))
theorem hf43:zH Tryz.prog 43=some ⟨74,f43.erase,[(RX.cell 4 3 true),(RX.t 5)]⟩:=by kernel_rfl
theorem okf43:f43.ok=true:=by kernel_rfl
def Υ43:=PLift.up (uu f43.eq_1)
theorem Ψ43:type_of% Υ43.1:=Υ43.1
def f44l25:AQ:=.loop [0,4,5] [4,28] (.seq (ζ [θ 10 5,θ 11 0,Ω 12 11,zAB 13 .lss 10 12] (.cond (.t 13) .skip (.exit 0))) (.seq (.block 1 (.seq (ζ [θ 16 0,θ 17 5,Ψ 18 8 16 17,ω 19 8 18,Θ 20 84 19,η (.un 21 .not (.t 20))] (.cond (.t 21) (ζ [η (.mov 2 (.v (.k (.c (.str []))))),η (.mov 3 (χ false))] .ret) .skip)) (.region [θ 22 4,θ 23 0,θ 24 5,Ψ 25 8 23 24,ω 26 8 25,Θ 27 85 26,η (.append 28 174 4 40 (.t 22) (.t 27)),θ 4 28]))) (.region [θ 14 5,η (.bin 15 .add (.t 14) (φ 1)),θ 5 15])))
def f44:AQ:=(ζ [η (.mov 2 (.v (.k (.c (.str []))))),η (.mov 3 (χ false))] (.seq (ζ [θ 7 0,Ω 8 7,η (.bin 9 .gtr (.t 8) (φ 20))] (.cond (.t 9) (ζ [η (.mov 2 (.v (.k (.c (.str []))))),η (.mov 3 (χ false))] .ret) .skip)) (ζ [η (.nilL 4 174 4)] (.seq (ζ [η (.mov 5 (φ 0))] (.block 0 f44l25)) (ζ [θ 29 4,Θ 30 86 29,θ 6 30] (.seq (ζ [θ 31 6,η (.lenS 32 (.t 31)),η (.bin 33 .gtr (.t 32) (φ 20000))] (.cond (.t 33) (ζ [η (.mov 2 (.v (.k (.c (.str []))))),η (.mov 3 (χ false))] .ret) .skip)) (ζ [θ 34 6,θ 2 34,η (.mov 3 (χ true))] .ret)))))))
theorem hf44:zH Tryz.prog 44=some ⟨35,f44.erase,[(RX.t 2),(RX.t 3)]⟩:=by kernel_rfl
theorem okf44:f44.ok=true:=by kernel_rfl
def Υ44:=PLift.up (uu f44.eq_1)
theorem Ψ44:type_of% Υ44.1:=Υ44.1
def f45l11:AQ:=.loop [0,3,4] [] (.seq (ζ [θ 5 4,η (.bin 6 .lss (.t 5) (φ 30))] (.cond (.t 6) .skip (.exit 0))) (.seq (.block 1 (.region [θ 9 3,θ 10 0,θ 11 4,zAB 12 .shr 10 11,η (.bin 13 .and (.t 12) (φ 1)),zAB 14 .add 9 13,θ 3 14])) (.region [θ 7 4,η (.bin 8 .add (.t 7) (φ 1)),θ 4 8])))
def f45:AQ:=(ζ [η (.mov 2 (φ 0))] (ζ [η (.mov 3 (φ 0))] (.seq (ζ [η (.mov 4 (φ 0))] (.block 0 f45l11)) (ζ [θ 15 3,θ 2 15] .ret))))
theorem hf45:zH Tryz.prog 45=some ⟨16,f45.erase,[(RX.t 2)]⟩:=by kernel_rfl
theorem okf45:f45.ok=true:=by kernel_rfl
def Υ45:=PLift.up (uu f45.eq_1)
theorem Ψ45:type_of% Υ45.1:=Υ45.1
def f46l20:AQ:=.loop [0,1,5,6,7,8,9] [] (.seq (ζ [θ 15 9,θ 16 0,Ω 17 16,zAB 18 .lss 15 17] (.cond (.t 18) .skip (.exit 2))) (.seq (.block 3 (ζ [θ 21 0,θ 22 9,Ψ 23 1 21 22,ψ 24 1 23,θ 25 6,zAB 26 .shr 24 25,η (.bin 27 .and (.t 26) (φ 1)),η (.bin 28 .eql (.t 27) (φ 1))] (.cond (.t 28) (.region [η (.mov 8 (χ true))]) (.region [η (.mov 7 (χ true))])))) (.region [θ 19 9,η (.bin 20 .add (.t 19) (φ 1)),θ 9 20])))
def f46l35:AQ:=.loop [0,1,5,6] [] (.seq (ζ [θ 10 6,θ 11 1,zAB 12 .lss 10 11] (.cond (.t 12) .skip (.exit 0))) (.seq (.block 1 (ζ [η (.mov 7 (χ false))] (ζ [η (.mov 8 (χ false))] (.seq (ζ [η (.mov 9 (φ 0))] (.block 2 f46l20)) (ζ [θ 29 7,θ 30 29,zAE 30 (.mov 31 (.t 8)),η (.pick 32 (.t 30) (.t 31) (χ false))] (.cond (.t 32) (.region [θ 33 5,θ 34 6,η (.bin 35 .shl (φ 1) (.t 34)),zAB 36 .add 33 35,θ 5 36]) .skip)))))) (.region [θ 13 6,η (.bin 14 .add (.t 13) (φ 1)),θ 6 14])))
def f46:AQ:=(ζ [η (.mov 4 (φ 0))] (ζ [η (.mov 5 (φ 0))] (.seq (ζ [η (.mov 6 (φ 0))] (.block 0 f46l35)) (ζ [θ 37 5,θ 4 37] .ret))))
theorem hf46:zH Tryz.prog 46=some ⟨38,f46.erase,[(RX.t 4)]⟩:=by kernel_rfl
theorem okf46:f46.ok=true:=by kernel_rfl
def Υ46:=PLift.up (uu f46.eq_1)
theorem Ψ46:type_of% Υ46.1:=Υ46.1
def f47l13:AQ:=.loop [0,1,2,7,8,11,12,13] [14,23,28,45,24000,24001,24002,29000,29001,29002] (.seq (ζ [θ 29 13,θ 30 11,Ω 31 30,zAB 32 .lss 29 31] (.cond (.t 32) .skip (.exit 2))) (.seq (.block 3 (.region [θ 35 12,θ 36 11,θ 37 13,Ψ 38 1 36 37,ψ 39 1 38,η (.bin 40 .shl (φ 1) (.t 39)),zAB 41 .add 35 40,θ 12 41])) (.region [θ 33 13,η (.bin 34 .add (.t 33) (φ 1)),θ 13 34])))
def f47l30:AQ:=.loop [0,1,2,7,8] [14,45] (.seq (ζ [θ 15 8,θ 16 2,zAB 17 .lss 15 16] (.cond (.t 17) .skip (.exit 0))) (.seq (.block 1 (ζ [θ 21 1,θ 22 8,Ξ 23 19 21 22,θ 20 23,Δ 24 20 0,Δ 25 20 1,θ 9 24,θ 10 25] (ζ [θ 26 0,θ 27 9,Ξ 28 87 26 27,θ 11 28] (ζ [η (.mov 12 (φ 0))] (.seq (ζ [η (.mov 13 (φ 0))] (.block 2 f47l13)) (.region [θ 42 7,θ 43 12,η (.bslice 44 3 1 [(.int .i64 0)] 1 [(0,(.t 43))]),η (.append 45 3 1 8 (.t 42) (.t 44)),θ 7 45])))))) (.region [θ 18 8,η (.bin 19 .add (.t 18) (φ 1)),θ 8 19])))
def f47:AQ:=(ζ [η (.nilL 6 3 1)] (ζ [η (.bslice 14 3 1 [(.int .i64 0)] 0 []),θ 7 14] (.seq (ζ [η (.mov 8 (φ 0))] (.block 0 f47l30)) (ζ [θ 46 7,θ 6 46] .ret))))
theorem hf47:zH Tryz.prog 47=some ⟨47,f47.erase,[(RX.t 6)]⟩:=by kernel_rfl
theorem okf47:f47.ok=true:=by kernel_rfl
def Υ47:=PLift.up (uu f47.eq_1)
theorem Ψ47:type_of% Υ47.1:=Υ47.1
def f49l28:AQ:=.loop [0,1,5,6,7,8,9,10,11] [12,18,34,54,61,67,71] (.seq (ζ [θ 35 11,θ 36 7,Ω 37 36,zAB 38 .lss 35 37] (.cond (.t 38) .skip (.exit 4))) (.seq (.block 5 (.seq (ζ [θ 41 10,η (.un 42 .not (.t 41)),θ 43 42,zAE 43 (.mov 44 (.t 8)),zAE 43 (.mov 45 (.t 7)),zAE 43 (.mov 46 (.t 11)),zAE 43 (.iaddr 47 1 (.t 45) (.t 46)),zAE 43 (.load 48 1 false (.t 47)),zAE 43 (.call (some 49) 89 [(.t 44),(.t 48)]),η (.pick 50 (.t 43) (.t 49) (χ false))] (.cond (.t 50) (ζ [θ 51 9,θ 52 8,η (.bslice 53 3 1 [(.int .i64 0)] 1 [(0,(.t 52))]),η (.append 54 3 1 8 (.t 51) (.t 53)),θ 9 54] (.region [η (.mov 10 (χ true))])) .skip)) (.region [θ 55 9,θ 56 7,θ 57 11,Ψ 58 1 56 57,ψ 59 1 58,η (.bslice 60 3 1 [(.int .i64 0)] 1 [(0,(.t 59))]),η (.append 61 3 1 8 (.t 55) (.t 60)),θ 9 61]))) (.region [θ 39 11,η (.bin 40 .add (.t 39) (φ 1)),θ 11 40])))
def f49l46:AQ:=.loop [0,1,5,6,7,8] [12,18,34,54,61,67,71] (.seq (ζ [θ 19 8,θ 20 1,η (.bin 21 .shl (φ 1) (.t 20)),zAB 22 .lss 19 21] (.cond (.t 22) .skip (.exit 2))) (.seq (.block 3 (ζ [θ 25 8,Θ 26 45 25,θ 27 6,zAB 28 .eql 26 27,θ 29 28,zAE 29 (.mov 30 (.t 0)),zAE 29 (.mov 31 (.t 8)),zAE 29 (.call (some 32) 88 [(.t 30),(.t 31)]),η (.pick 33 (.t 29) (.t 32) (χ false))] (.cond (.t 33) (ζ [η (.bslice 34 3 1 [(.int .i64 0)] 0 []),θ 9 34] (ζ [η (.mov 10 (χ false))] (.seq (ζ [η (.mov 11 (φ 0))] (.block 4 f49l28)) (.seq (ζ [θ 62 10,η (.un 63 .not (.t 62))] (.cond (.t 63) (.region [θ 64 9,θ 65 8,η (.bslice 66 3 1 [(.int .i64 0)] 1 [(0,(.t 65))]),η (.append 67 3 1 8 (.t 64) (.t 66)),θ 9 67]) .skip)) (.regf [θ 68 9] [34] [θ 7 68]))))) .skip))) (.region [θ 23 8,η (.bin 24 .add (.t 23) (φ 1)),θ 8 24])))
def f49l60:AQ:=.loop [0,1,5,6] [12,71] (.seq (ζ [θ 13 6,θ 14 1,zAB 15 .leq 13 14] (.cond (.t 15) .skip (.exit 0))) (.seq (.block 1 (.seq (.regf [η (.bslice 18 3 1 [(.int .i64 0)] 0 [])] [18] [θ 7 18]) (.seq (ζ [η (.mov 8 (φ 1))] (.block 2 f49l46)) (.region [θ 69 5,θ 70 7,η (.append 71 3 1 8 (.t 69) (.t 70)),θ 5 71])))) (.region [θ 16 6,η (.bin 17 .add (.t 16) (φ 1)),θ 6 17])))
def f49:AQ:=(ζ [η (.nilL 4 3 1)] (ζ [η (.bslice 12 3 1 [(.int .i64 0)] 0 []),θ 5 12] (.seq (ζ [η (.mov 6 (φ 1))] (.block 0 f49l60)) (ζ [θ 72 5,θ 4 72] .ret))))
theorem hf49:zH Tryz.prog 49=some ⟨73,f49.erase,[(RX.t 4)]⟩:=by kernel_rfl
theorem okf49:f49.ok=true:=by kernel_rfl
def Υ49:=PLift.up (uu f49.eq_1)
theorem Ψ49:type_of% Υ49.1:=Υ49.1
def f50l14:AQ:=.loop [0,3,4] [5,18] (.seq (ζ [θ 6 4,η (.bin 7 .lss (.t 6) (φ 30))] (.cond (.t 7) .skip (.exit 0))) (.seq (.block 1 (ζ [θ 10 0,θ 11 4,zAB 12 .shr 10 11,η (.bin 13 .and (.t 12) (φ 1)),η (.bin 14 .eql (.t 13) (φ 1))] (.cond (.t 14) (.region [θ 15 3,θ 16 4,η (.bslice 17 3 1 [(.int .i64 0)] 1 [(0,(.t 16))]),η (.append 18 3 1 8 (.t 15) (.t 17)),θ 3 18]) .skip))) (.region [θ 8 4,η (.bin 9 .add (.t 8) (φ 1)),θ 4 9])))
def f50:AQ:=(ζ [η (.nilL 2 3 1)] (ζ [η (.bslice 5 3 1 [(.int .i64 0)] 0 []),θ 3 5] (.seq (ζ [η (.mov 4 (φ 0))] (.block 0 f50l14)) (ζ [θ 19 3,θ 2 19] .ret))))
theorem hf50:zH Tryz.prog 50=some ⟨20,f50.erase,[(RX.t 2)]⟩:=by kernel_rfl
theorem okf50:f50.ok=true:=by kernel_rfl
def Υ50:=PLift.up (uu f50.eq_1)
theorem Ψ50:type_of% Υ50.1:=Υ50.1
def f51l18:AQ:=.loop [0,2,7,9,10,11,12,13,14,15] [18,21,54,78,19000,19001,19002,55000,55001,55002] (.seq (ζ [θ 55 15,θ 56 14,Ω 57 56,zAB 58 .lss 55 57] (.cond (.t 58) .skip (.exit 6))) (.seq (.block 7 (.region [θ 61 12,θ 62 61,zAF 62 (.mov 63 (.t 14)),zAF 62 (.mov 64 (.t 15)),zAF 62 (.iaddr 65 2 (.t 63) (.t 64)),zAF 62 (.load 66 2 true (.t 65)),zAF 62 (.mov 67 (.t 10)),zAF 62 (.mov 68 (.t 11)),zAF 62 (.build 69 [(.int .i64 0),(.int .i64 0)] [(0,(1,(.t 67))),(1,(1,(.t 68)))]),zAF 62 (.eqAgg 70 false [.int,.int] (.t 66) (.t 69)),η (.pick 71 (.t 62) (χ true) (.t 70)),θ 12 71])) (.region [θ 59 15,η (.bin 60 .add (.t 59) (φ 1)),θ 15 60])))
def f51l33:AQ:=.loop [0,2,7,9,10,11,12,13] [18,21,78,19000,19001,19002] (.seq (ζ [θ 38 13,θ 39 0,Ω 40 39,zAB 41 .lss 38 40] (.cond (.t 41) .skip (.exit 4))) (.seq (.block 5 (ζ [θ 44 2,θ 45 13,zAB 46 .shr 44 45,η (.bin 47 .and (.t 46) (φ 1)),η (.bin 48 .eql (.t 47) (φ 1))] (.cond (.t 48) (ζ [θ 49 0,θ 50 13,Ψ 51 8 49 50,ω 52 8 51,θ 53 7,Ξ 54 90 52 53,θ 14 54] (ζ [η (.mov 15 (φ 0))] (.block 6 f51l18))) .skip))) (.region [θ 42 13,η (.bin 43 .add (.t 42) (φ 1)),θ 13 43])))
def f51l46:AQ:=.loop [0,2,7,9,10,11] [18,21,78,19000,19001,19002] (.seq (ζ [θ 28 11,θ 29 7,θ 30 10,Ψ 31 3 29 30,Γ 32 1 31,ψ 33 1 32,Ω 34 33,zAB 35 .lss 28 34] (.cond (.t 35) .skip (.exit 2))) (.seq (.block 3 (ζ [η (.mov 12 (χ false))] (.seq (ζ [η (.mov 13 (φ 0))] (.block 4 f51l33)) (ζ [θ 72 12] (.cond (.t 72) (.region [θ 73 9,θ 74 10,θ 75 11,η (.build 76 [(.int .i64 0),(.int .i64 0)] [(0,(1,(.t 74))),(1,(1,(.t 75)))]),η (.bslice 77 64 2 [(.int .i64 0),(.int .i64 0)] 1 [(0,(.t 76))]),η (.append 78 64 2 16 (.t 73) (.t 77)),θ 9 78]) .skip))))) (.region [θ 36 11,η (.bin 37 .add (.t 36) (φ 1)),θ 11 37])))
def f51l56:AQ:=.loop [0,2,7,9,10] [18,21,78,19000,19001,19002] (.seq (ζ [θ 22 10,θ 23 7,Ω 24 23,zAB 25 .lss 22 24] (.cond (.t 25) .skip (.exit 0))) (.seq (.block 1 (ζ [η (.mov 11 (φ 0))] (.block 2 f51l46))) (.region [θ 26 10,η (.bin 27 .add (.t 26) (φ 1)),θ 10 27])))
def f51:AQ:=(ζ [η (.nilL 6 64 2)] (ζ [θ 17 1,η (.call (some 18) 19 [(.t 17),(φ 0)]),θ 16 18,Δ 19 16 0,Δ 20 16 1,θ 7 19,θ 8 20] (ζ [η (.bslice 21 64 2 [(.int .i64 0),(.int .i64 0)] 0 []),θ 9 21] (.seq (ζ [η (.mov 10 (φ 0))] (.block 0 f51l56)) (ζ [θ 79 9,θ 6 79] .ret)))))
theorem hf51:zH Tryz.prog 51=some ⟨80,f51.erase,[(RX.t 6)]⟩:=by kernel_rfl
theorem okf51:f51.ok=true:=by kernel_rfl
def Υ51:=PLift.up (uu f51.eq_1)
theorem Ψ51:type_of% Υ51.1:=Υ51.1
def f83l22:AQ:=.loop [1,2,5,6,7] [2] (.seq (ζ [θ 11 7,Γ 12 1 2,ψ 13 1 12,Ω 14 13,zAB 15 .lss 11 14] (.cond (.t 15) .skip (.exit 0))) (.seq (.block 1 (ζ [Γ 18 1 2,ψ 19 1 18,θ 20 7,Ψ 21 1 19 20,Γ 22 0 21,ψ 23 1 22,θ 8 23] (ζ [θ 24 5,θ 25 8,Ω 26 25,zAB 27 .quo 24 26,θ 5 27] (.seq (ζ [θ 28 7,η (.bin 29 .gtr (.t 28) (φ 0))] (.cond (.t 29) (.region [θ 30 6,η (.bin 31 .add (.t 30) (.v (.k (.c (.str [32]))))),θ 6 31]) .skip)) (ζ [θ 32 6,θ 33 8,θ 34 1,θ 35 5,zAB 36 .quo 34 35,Ψ 37 1 33 36,ψ 38 1 37,zAB 39 .add 32 38,θ 6 39] (.region [θ 40 1,θ 41 5,zAB 42 .rem 40 41,θ 1 42])))))) (.region [θ 16 7,η (.bin 17 .add (.t 16) (φ 1)),θ 7 17])))
def f83:AQ:=(ζ [zAA 2 107 0,η (.mov 4 (.v (.k (.c (.str [])))))] (.frz 2 (ζ [ω 9 2 2,Θ 10 82 9,θ 5 10] (ζ [η (.mov 6 (.v (.k (.c (.str [])))))] (.seq (ζ [η (.mov 7 (φ 0))] (.block 0 f83l22)) (ζ [θ 43 6,θ 4 43] .ret))))))
theorem hf83:zH Tryz.prog 83=some ⟨44,f83.erase,[(RX.t 4)]⟩:=by kernel_rfl
theorem okf83:f83.ok=true:=by kernel_rfl
def Υ83:=PLift.up (uu f83.eq_1)
theorem Ψ83:type_of% Υ83.1:=Υ83.1
def f84:AQ:=(ζ [zAA 1 46 0,η (.mov 2 (χ false))] (.frz 1 (ζ [Γ 5 0 1,ψ 6 1 5,η (.bin 7 .neq (.t 6) (φ 0)),θ 3 7] (ζ [Γ 8 0 1,ψ 9 1 8,η (.bin 10 .eql (.t 9) (φ 2)),θ 11 10,zAF 11 (.faddr 12 0 (.t 1)),zAF 11 (.load 13 1 false (.t 12)),zAF 11 (.bin 14 .eql (.t 13) (φ 4)),η (.pick 15 (.t 11) (χ true) (.t 14)),θ 4 15] (.seq (ζ [Γ 16 0 1,ψ 17 1 16,η (.bin 18 .lss (.t 17) (φ 0)),θ 19 18,zAF 19 (.faddr 20 0 (.t 1)),zAF 19 (.load 21 1 false (.t 20)),zAF 19 (.bin 22 .geq (.t 21) (φ 5)),η (.pick 23 (.t 19) (χ true) (.t 22)),θ 24 23,zAF 24 (.faddr 25 1 (.t 1)),zAF 24 (.load 26 1 false (.t 25)),zAF 24 (.call (some 27) 80 [(.t 26)]),zAF 24 (.un 28 .not (.t 27)),η (.pick 29 (.t 24) (χ true) (.t 28))] (.cond (.t 29) (ζ [η (.mov 2 (χ false))] .ret) .skip)) (.seq (ζ [θ 30 3,θ 31 30,zAE 31 (.faddr 32 2 (.t 1)),zAE 31 (.load 33 1 false (.t 32)),zAE 31 (.call (some 34) 80 [(.t 33)]),zAE 31 (.un 35 .not (.t 34)),η (.pick 36 (.t 31) (.t 35) (χ false)),θ 37 36,zAF 37 (.mov 38 (.t 3)),zAF 37 (.un 39 .not (.t 38)),zAF 37 (.mov 40 (.t 39)),zAE 40 (.faddr 41 2 (.t 1)),zAE 40 (.load 42 1 false (.t 41)),zAE 40 (.bin 43 .neq (.t 42) (.v (.k (.c (.str []))))),zAF 37 (.pick 44 (.t 40) (.t 43) (χ false)),η (.pick 45 (.t 37) (χ true) (.t 44))] (.cond (.t 45) (ζ [η (.mov 2 (χ false))] .ret) .skip)) (.seq (ζ [Γ 46 0 1,ψ 47 1 46,η (.bin 48 .eql (.t 47) (φ 3)),θ 49 48,zAE 49 (.faddr 50 3 (.t 1)),zAE 49 (.load 51 1 false (.t 50)),zAE 49 (.call (some 52) 80 [(.t 51)]),zAE 49 (.un 53 .not (.t 52)),zAE 49 (.mov 54 (.t 53)),zAF 54 (.faddr 55 4 (.t 1)),zAF 54 (.load 56 1 false (.t 55)),zAF 54 (.call (some 57) 80 [(.t 56)]),zAF 54 (.un 58 .not (.t 57)),zAE 49 (.pick 59 (.t 54) (χ true) (.t 58)),η (.pick 60 (.t 49) (.t 59) (χ false)),θ 61 60,zAF 61 (.faddr 62 0 (.t 1)),zAF 61 (.load 63 1 false (.t 62)),zAF 61 (.bin 64 .neq (.t 63) (φ 3)),zAF 61 (.mov 65 (.t 64)),zAE 65 (.faddr 66 3 (.t 1)),zAE 65 (.load 67 1 false (.t 66)),zAE 65 (.bin 68 .neq (.t 67) (.v (.k (.c (.str []))))),zAE 65 (.mov 69 (.t 68)),zAF 69 (.faddr 70 4 (.t 1)),zAF 69 (.load 71 1 false (.t 70)),zAF 69 (.bin 72 .neq (.t 71) (.v (.k (.c (.str []))))),zAE 65 (.pick 73 (.t 69) (χ true) (.t 72)),zAF 61 (.pick 74 (.t 65) (.t 73) (χ false)),η (.pick 75 (.t 61) (χ true) (.t 74))] (.cond (.t 75) (ζ [η (.mov 2 (χ false))] .ret) .skip)) (.seq (ζ [Γ 76 0 1,ψ 77 1 76,η (.bin 78 .eql (.t 77) (φ 1)),θ 79 78,zAE 79 (.faddr 80 5 (.t 1)),zAE 79 (.load 81 1 false (.t 80)),zAE 79 (.call (some 82) 116 [(.t 81)]),zAE 79 (.un 83 .not (.t 82)),η (.pick 84 (.t 79) (.t 83) (χ false)),θ 85 84,zAF 85 (.faddr 86 0 (.t 1)),zAF 85 (.load 87 1 false (.t 86)),zAF 85 (.bin 88 .neq (.t 87) (φ 1)),zAF 85 (.mov 89 (.t 88)),zAE 89 (.faddr 90 5 (.t 1)),zAE 89 (.load 91 1 false (.t 90)),zAE 89 (.bin 92 .neq (.t 91) (.v (.k (.c (.str []))))),zAF 85 (.pick 93 (.t 89) (.t 92) (χ false)),η (.pick 94 (.t 85) (χ true) (.t 93))] (.cond (.t 94) (ζ [η (.mov 2 (χ false))] .ret) .skip)) (.seq (ζ [θ 95 4,η (.un 96 .not (.t 95))] (.cond (.t 96) (ζ [Γ 97 6 1,ψ 98 1 97,η (.bin 99 .eql (.t 98) (φ 0)),θ 100 99,zAE 100 (.faddr 101 7 (.t 1)),zAE 100 (.load 102 1 false (.t 101)),zAE 100 (.bin 103 .eql (.t 102) (φ 0)),η (.pick 104 (.t 100) (.t 103) (χ false)),θ 2 104] .ret) .skip)) (ζ [Γ 105 6 1,ψ 106 1 105,η (.bin 107 .leq (φ 0) (.t 106)),θ 108 107,zAE 108 (.faddr 109 6 (.t 1)),zAE 108 (.load 110 1 false (.t 109)),zAE 108 (.faddr 111 7 (.t 1)),zAE 108 (.load 112 1 false (.t 111)),zAE 108 (.bin 113 .leq (.t 110) (.t 112)),η (.pick 114 (.t 108) (.t 113) (χ false)),θ 115 114,zAE 115 (.faddr 116 7 (.t 1)),zAE 115 (.load 117 1 false (.t 116)),zAE 115 (.bin 118 .leq (.t 117) (φ 1099511627776)),η (.pick 119 (.t 115) (.t 118) (χ false)),θ 2 119] .ret))))))))))
theorem hf84:zH Tryz.prog 84=some ⟨120,f84.erase,[(RX.t 2)]⟩:=by kernel_rfl
theorem okf84:f84.ok=true:=by kernel_rfl
def Υ84:=PLift.up (uu f84.eq_1)
theorem Ψ84:type_of% Υ84.1:=Υ84.1
def f85:AQ:=(ζ [zAA 1 46 0,η (.nilL 2 174 4)] (.frz 1 (.seq (ζ [Γ 5 0 1,ψ 6 1 5,η (.bin 7 .eql (.t 6) (φ 0))] (.cond (.t 7) (.seq (.drawl [η (.call (some 8) 117 [(.v (.k (.c (.str [110,101,101,100]))))]),Γ 9 1 1,ψ 10 1 9,Θ 11 117 10,η (.call (some 12) 118 [(.v (.k (.c (.str [59]))))])] [η (.bslice 13 174 4 [(.int .i64 0),(.str []),(.int .i64 0),(.int .i64 0)] 3 [(0,(.t 8)),(1,(.t 11)),(2,(.t 12))]),θ 2 13] [[],[],[1],[2,0],[3],[0,3,4],[5,4,0,1,2,3,4,5]]) .ret) .skip)) (ζ [η (.mov 3 (.v (.k (.c (.str [102,105,101,108,100])))))] (.seq (ζ [Γ 14 0 1,ψ 15 1 14,η (.bin 16 .eql (.t 15) (φ 4))] (.cond (.t 16) (.region [η (.mov 3 (.v (.k (.c (.str [115,117,109])))))]) .skip)) (.seq (.drawl [θ 17 3,Θ 18 117 17,Γ 19 1 1,ψ 20 1 19,Θ 21 117 20,η (.call (some 22) 118 [(.v (.k (.c (.str [46]))))]),Γ 23 2 1,ψ 24 1 23,Θ 25 117 24] [η (.bslice 26 174 4 [(.int .i64 0),(.str []),(.int .i64 0),(.int .i64 0)] 4 [(0,(.t 18)),(1,(.t 21)),(2,(.t 22)),(3,(.t 25))]),θ 4 26] [[],[0],[],[2],[3,1],[4],[],[6],[7,5],[1,4,5,8],[9,8,0,1,2,3,4,5,6,7,8,9]]) (.seq (ζ [Γ 27 0 1,ψ 28 1 27,η (.bin 29 .eql (.t 28) (φ 1))] (.cond (.t 29) (.seq (.drawl [θ 30 4,η (.call (some 31) 117 [(.v (.k (.c (.str [105,115]))))]),Γ 32 5 1,ψ 33 1 32,η (.build 34 [(.int .i64 0),(.str []),(.int .i64 0),(.int .i64 0)] [(0,(1,(φ 2))),(1,(1,(.t 33)))]),η (.call (some 35) 118 [(.v (.k (.c (.str [59]))))]),η (.bslice 36 174 4 [(.int .i64 0),(.str []),(.int .i64 0),(.int .i64 0)] 3 [(0,(.t 31)),(1,(.t 34)),(2,(.t 35))])] [η (.append 37 174 4 40 (.t 30) (.t 36)),θ 2 37] [[],[],[],[2],[3],[1],[1,4,5],[0,6,5],[7,7,0,1,2,3,4,5,6,7]]) .ret) .skip)) (.seq (ζ [Γ 38 0 1,ψ 39 1 38,η (.bin 40 .eql (.t 39) (φ 3))] (.cond (.t 40) (.seq (.drawl [θ 41 4,η (.call (some 42) 117 [(.v (.k (.c (.str [115,97,109,101]))))]),Γ 43 3 1,ψ 44 1 43,Θ 45 117 44,η (.call (some 46) 118 [(.v (.k (.c (.str [46]))))]),Γ 47 4 1,ψ 48 1 47,Θ 49 117 48,η (.call (some 50) 118 [(.v (.k (.c (.str [59]))))]),η (.bslice 51 174 4 [(.int .i64 0),(.str []),(.int .i64 0),(.int .i64 0)] 5 [(0,(.t 42)),(1,(.t 45)),(2,(.t 46)),(3,(.t 49)),(4,(.t 50))])] [η (.append 52 174 4 40 (.t 41) (.t 51)),θ 2 52] [[],[],[],[2],[3,1],[4],[],[6],[7,5],[8],[1,4,5,8,9],[0,10,9],[11,11,0,1,2,3,4,5,6,7,8,9,10,11]]) .ret) .skip)) (.seq (.drawl [θ 53 4,η (.call (some 54) 117 [(.v (.k (.c (.str [102,114,111,109]))))]),Γ 55 6 1,ψ 56 1 55,Θ 57 119 56,η (.build 58 [(.int .i64 0),(.str []),(.int .i64 0),(.int .i64 0)] [(0,(1,(φ 1))),(1,(1,(.t 57)))]),η (.call (some 59) 117 [(.v (.k (.c (.str [116,111]))))]),Γ 60 7 1,ψ 61 1 60,Θ 62 119 61,η (.build 63 [(.int .i64 0),(.str []),(.int .i64 0),(.int .i64 0)] [(0,(1,(φ 1))),(1,(1,(.t 62)))]),η (.call (some 64) 118 [(.v (.k (.c (.str [59]))))]),η (.bslice 65 174 4 [(.int .i64 0),(.str []),(.int .i64 0),(.int .i64 0)] 5 [(0,(.t 54)),(1,(.t 58)),(2,(.t 59)),(3,(.t 63)),(4,(.t 64))])] [η (.append 66 174 4 40 (.t 53) (.t 65)),θ 2 66] [[],[],[],[2],[3,1],[4],[4],[],[7],[8,6],[9],[9],[1,5,6,10,11],[0,12,11],[13,13,0,1,2,3,4,5,6,7,8,9,10,11,12,13]]) .ret)))))))))
theorem hf85:zH Tryz.prog 85=some ⟨67,f85.erase,[(RX.t 2)]⟩:=by kernel_rfl
theorem okf85:f85.ok=true:=by kernel_rfl
def Υ85:=PLift.up (uu f85.eq_1)
theorem Ψ85:type_of% Υ85.1:=Υ85.1
def f86l20:AQ:=.loop [0,3,4] [] (.seq (ζ [θ 5 4,θ 6 0,Ω 7 6,zAB 8 .lss 5 7] (.cond (.t 8) .skip (.exit 0))) (.seq (.block 1 (.seq (ζ [θ 11 4,η (.bin 12 .gtr (.t 11) (φ 0))] (.cond (.t 12) (.region [θ 13 3,η (.bin 14 .add (.t 13) (.v (.k (.c (.str [32]))))),θ 3 14]) .skip)) (ζ [θ 15 0,θ 16 4,Ψ 17 4 15 16,Γ 18 0 17,ψ 19 1 18,η (.bin 20 .eql (.t 19) (φ 2))] (.cond (.t 20) (.region [θ 21 3,θ 22 0,θ 23 4,Ψ 24 4 22 23,Γ 25 1 24,ψ 26 1 25,Θ 27 120 26,zAB 28 .add 21 27,θ 3 28]) (.region [θ 29 3,θ 30 0,θ 31 4,Ψ 32 4 30 31,Γ 33 1 32,ψ 34 1 33,zAB 35 .add 29 34,θ 3 35]))))) (.region [θ 9 4,η (.bin 10 .add (.t 9) (φ 1)),θ 4 10])))
def f86:AQ:=(ζ [η (.mov 2 (.v (.k (.c (.str [])))))] (ζ [η (.mov 3 (.v (.k (.c (.str [])))))] (.seq (ζ [η (.mov 4 (φ 0))] (.block 0 f86l20)) (ζ [θ 36 3,θ 2 36] .ret))))
theorem hf86:zH Tryz.prog 86=some ⟨37,f86.erase,[(RX.t 2)]⟩:=by kernel_rfl
theorem okf86:f86.ok=true:=by kernel_rfl
def Υ86:=PLift.up (uu f86.eq_1)
theorem Ψ86:type_of% Υ86.1:=Υ86.1
def f87l14:AQ:=.loop [0,1,5,6] [5,23] (.seq (ζ [θ 7 6,θ 8 0,Ω 9 8,zAB 10 .lss 7 9] (.cond (.t 10) .skip (.exit 0))) (.seq (.block 1 (ζ [θ 13 0,θ 14 6,Ψ 15 8 13 14,ω 16 8 15,θ 17 1,Ξ 18 121 16 17,η (.un 19 .not (.t 18))] (.cond (.t 19) (.region [θ 20 5,θ 21 6,η (.bslice 22 3 1 [(.int .i64 0)] 1 [(0,(.t 21))]),η (.append 23 3 1 8 (.t 20) (.t 22)),θ 5 23]) .skip))) (.region [θ 11 6,η (.bin 12 .add (.t 11) (φ 1)),θ 6 12])))
def f87:AQ:=(ζ [η (.nilL 4 3 1)] (ζ [η (.nilL 5 3 1)] (.seq (ζ [η (.mov 6 (φ 0))] (.block 0 f87l14)) (ζ [θ 24 5,θ 4 24] .ret))))
theorem hf87:zH Tryz.prog 87=some ⟨25,f87.erase,[(RX.t 4)]⟩:=by kernel_rfl
theorem okf87:f87.ok=true:=by kernel_rfl
def Υ87:=PLift.up (uu f87.eq_1)
theorem Ψ87:type_of% Υ87.1:=Υ87.1
def f88l15:AQ:=.loop [0,1,5] [] (.seq (ζ [θ 9 5,η (.bin 10 .lss (.t 9) (φ 30))] (.cond (.t 10) .skip (.exit 0))) (.seq (.block 1 (ζ [θ 13 1,θ 14 5,zAB 15 .shr 13 14,η (.bin 16 .and (.t 15) (φ 1)),η (.bin 17 .eql (.t 16) (φ 1)),θ 18 17,zAE 18 (.mov 19 (.t 0)),zAE 18 (.mov 20 (.t 1)),zAE 18 (.mov 21 (.t 5)),zAE 18 (.bin 22 .shl (φ 1) (.t 21)),zAE 18 (.bin 23 .sub (.t 20) (.t 22)),zAE 18 (.call (some 24) 122 [(.t 19),(.t 23)]),zAE 18 (.un 25 .not (.t 24)),η (.pick 26 (.t 18) (.t 25) (χ false))] (.cond (.t 26) (ζ [η (.mov 4 (χ false))] .ret) .skip))) (.region [θ 11 5,η (.bin 12 .add (.t 11) (φ 1)),θ 5 12])))
def f88:AQ:=(ζ [η (.mov 4 (χ false))] (.seq (ζ [θ 6 0,θ 7 1,Ξ 8 122 6 7] (.cond (.t 8) (ζ [η (.mov 4 (χ false))] .ret) .skip)) (.seq (ζ [η (.mov 5 (φ 0))] (.block 0 f88l15)) (ζ [η (.mov 4 (χ true))] .ret))))
theorem hf88:zH Tryz.prog 88=some ⟨27,f88.erase,[(RX.t 4)]⟩:=by kernel_rfl
theorem okf88:f88.ok=true:=by kernel_rfl
def Υ88:=PLift.up (uu f88.eq_1)
theorem Ψ88:type_of% Υ88.1:=Υ88.1
def f89l15:AQ:=.loop [5,6,7] [9,11,10000,10001,10002,12000,12001,12002] (.seq (ζ [θ 12 7,θ 13 5,Ω 14 13,zAB 15 .lss 12 14,θ 16 15,zAE 16 (.mov 17 (.t 7)),zAE 16 (.mov 18 (.t 6)),zAE 16 (.len 19 (.t 18)),zAE 16 (.bin 20 .lss (.t 17) (.t 19)),η (.pick 21 (.t 16) (.t 20) (χ false))] (.cond (.t 21) .skip (.exit 0))) (.seq (.block 1 (.seq (.draw [θ 24 5,θ 25 7,Ψ 26 1 24 25,ψ 27 1 26,θ 28 6,θ 29 7,Ψ 30 1 28 29,ψ 31 1 30,zAB 32 .neq 27 31] [[],[],[0,1],[2],[],[],[4,5],[6],[3,7]]) (.cond (.t 32) (.seq (.draw [θ 33 5,θ 34 7,Ψ 35 1 33 34,ψ 36 1 35,θ 37 6,θ 38 7,Ψ 39 1 37 38,ψ 40 1 39,zAB 41 .lss 36 40,θ 4 41] [[],[],[0,1],[2],[],[],[4,5],[6],[3,7],[8,0,1,2,3,4,5,6,7,8]]) .ret) .skip))) (.region [θ 22 7,η (.bin 23 .add (.t 22) (φ 1)),θ 7 23])))
def f89:AQ:=(ζ [η (.mov 4 (χ false))] (ζ [θ 8 0,Θ 9 50 8,θ 5 9] (ζ [θ 10 1,Θ 11 50 10,θ 6 11] (.seq (ζ [η (.mov 7 (φ 0))] (.block 0 f89l15)) (ζ [η (.mov 4 (χ false))] .ret)))))
theorem hf89:zH Tryz.prog 89=some ⟨42,f89.erase,[(RX.t 4)]⟩:=by kernel_rfl
theorem okf89:f89.ok=true:=by kernel_rfl
def Υ89:=PLift.up (uu f89.eq_1)
theorem Ψ89:type_of% Υ89.1:=Υ89.1
def f116l15:AQ:=.loop [0,3] [] (.seq (ζ [θ 4 3,θ 5 0,η (.lenS 6 (.t 5)),zAB 7 .lss 4 6] (.cond (.t 7) .skip (.exit 0))) (.seq (.block 1 (ζ [θ 10 0,θ 11 3,η (.sidx 12 (.t 10) (.t 11)),η (.bin 13 .lss (.t 12) (.v (.k (.c (.int .u8 32))))),θ 14 13,zAF 14 (.mov 15 (.t 0)),zAF 14 (.mov 16 (.t 3)),zAF 14 (.sidx 17 (.t 15) (.t 16)),zAF 14 (.bin 18 .gtr (.t 17) (.v (.k (.c (.int .u8 126))))),η (.pick 19 (.t 14) (χ true) (.t 18))] (.cond (.t 19) (ζ [η (.mov 2 (χ false))] .ret) .skip))) (.region [θ 8 3,η (.bin 9 .add (.t 8) (φ 1)),θ 3 9])))
def f116:AQ:=(ζ [η (.mov 2 (χ false))] (.seq (ζ [η (.mov 3 (φ 0))] (.block 0 f116l15)) (ζ [θ 20 0,η (.lenS 21 (.t 20)),η (.bin 22 .leq (.t 21) (φ 400)),θ 2 22] .ret)))
theorem hf116:zH Tryz.prog 116=some ⟨23,f116.erase,[(RX.t 2)]⟩:=by kernel_rfl
theorem okf116:f116.ok=true:=by kernel_rfl
def Υ116:=PLift.up (uu f116.eq_1)
theorem Ψ116:type_of% Υ116.1:=Υ116.1
def f117:AQ:=(ζ [η (.alloc 2 174 [(.int .i64 0),(.str []),(.int .i64 0),(.int .i64 0)])] (ζ [θ 3 0,η (.build 4 [(.int .i64 0),(.str []),(.int .i64 0),(.int .i64 0)] [(0,(1,(φ 0))),(1,(1,(.t 3)))]),Φ 4 2 4] .ret))
theorem hf117:zH Tryz.prog 117=some ⟨5,f117.erase,[(RX.cell 2 4 true)]⟩:=by kernel_rfl
theorem okf117:f117.ok=true:=by kernel_rfl
def Υ117:=PLift.up (uu f117.eq_1)
theorem Ψ117:type_of% Υ117.1:=Υ117.1
def f118:AQ:=(ζ [η (.alloc 2 174 [(.int .i64 0),(.str []),(.int .i64 0),(.int .i64 0)])] (ζ [θ 3 0,η (.build 4 [(.int .i64 0),(.str []),(.int .i64 0),(.int .i64 0)] [(0,(1,(φ 3))),(1,(1,(.t 3)))]),Φ 4 2 4] .ret))
theorem hf118:zH Tryz.prog 118=some ⟨5,f118.erase,[(RX.cell 2 4 true)]⟩:=by kernel_rfl
theorem okf118:f118.ok=true:=by kernel_rfl
def Υ118:=PLift.up (uu f118.eq_1)
theorem Ψ118:type_of% Υ118.1:=Υ118.1
def f120l16:AQ:=.loop [0,3,4] [] (.seq (ζ [θ 5 4,θ 6 0,η (.lenS 7 (.t 6)),zAB 8 .lss 5 7] (.cond (.t 8) .skip (.exit 0))) (.seq (.block 1 (.seq (ζ [θ 11 0,θ 12 4,η (.sidx 13 (.t 11) (.t 12)),η (.bin 14 .eql (.t 13) (.v (.k (.c (.int .u8 34))))),θ 15 14,zAF 15 (.mov 16 (.t 0)),zAF 15 (.mov 17 (.t 4)),zAF 15 (.sidx 18 (.t 16) (.t 17)),zAF 15 (.bin 19 .eql (.t 18) (.v (.k (.c (.int .u8 92))))),η (.pick 20 (.t 15) (χ true) (.t 19))] (.cond (.t 20) (.region [θ 21 3,η (.bin 22 .add (.t 21) (.v (.k (.c (.str [92]))))),θ 3 22]) .skip)) (.region [θ 23 3,θ 24 0,θ 25 4,θ 26 4,η (.bin 27 .add (.t 26) (φ 1)),η (.slstr 28 (.t 24) (some (.t 25)) (some (.t 27))),zAB 29 .add 23 28,θ 3 29]))) (.region [θ 9 4,η (.bin 10 .add (.t 9) (φ 1)),θ 4 10])))
def f120:AQ:=(ζ [η (.mov 2 (.v (.k (.c (.str [])))))] (ζ [η (.mov 3 (.v (.k (.c (.str [34])))))] (.seq (ζ [η (.mov 4 (φ 0))] (.block 0 f120l16)) (ζ [θ 30 3,η (.bin 31 .add (.t 30) (.v (.k (.c (.str [34]))))),θ 2 31] .ret))))
theorem hf120:zH Tryz.prog 120=some ⟨32,f120.erase,[(RX.t 2)]⟩:=by kernel_rfl
theorem okf120:f120.ok=true:=by kernel_rfl
def Υ120:=PLift.up (uu f120.eq_1)
theorem Ψ120:type_of% Υ120.1:=Υ120.1
def f121l67:AQ:=.loop [1,2,5,6,7] [2] (.seq (ζ [θ 17 7,θ 18 1,Ω 19 18,zAB 20 .lss 17 19] (.cond (.t 20) .skip (.exit 0))) (.seq (.block 1 (.seq (.seq (.draw [θ 23 1,θ 24 7,Ψ 25 3 23 24,Γ 26 0 25,ψ 27 1 26,Γ 28 1 2,ψ 29 1 28,zAB 30 .neq 27 29] [[],[],[0,1],[2],[3],[],[5],[4,6]]) (.cond (.t 30) (.exit 1) .skip)) (ζ [η (.mov 6 (χ true))] (.seq (.draw [θ 31 1,θ 32 7,Ψ 33 3 31 32,ω 34 3 33,Γ 35 2 2,ψ 36 1 35,Ξ 37 123 34 36,θ 8 37] [[],[],[0,1],[2],[],[4],[3,5],[6,6,0,1,2,3,4,5,6]]) (.seq (ζ [Γ 38 0 2,ψ 39 1 38,η (.bin 40 .neq (.t 39) (φ 0)),θ 41 40,zAE 41 (.mov 42 (.t 8)),zAE 41 (.bin 43 .lss (.t 42) (φ 0)),η (.pick 44 (.t 41) (.t 43) (χ false))] (.cond (.t 44) (ζ [η (.mov 4 (χ false))] .ret) .skip)) (.seq (ζ [Γ 45 0 2,ψ 46 1 45,η (.bin 47 .eql (.t 46) (φ 1))] (.cond (.t 47) (.seq (.draw [θ 48 1,θ 49 7,Ψ 50 3 48 49,Γ 51 2 50,ψ 52 1 51,θ 53 8,Ψ 54 1 52 53,ψ 55 1 54,Γ 56 5 2,ψ 57 1 56,zAB 58 .neq 55 57] [[],[],[0,1],[2],[3],[],[4,5],[6],[],[8],[7,9]]) (.cond (.t 58) (ζ [η (.mov 4 (χ false))] .ret) .skip)) .skip)) (ζ [Γ 59 0 2,ψ 60 1 59,η (.bin 61 .eql (.t 60) (φ 2)),θ 62 61,zAF 62 (.faddr 63 0 (.t 2)),zAF 62 (.load 64 1 false (.t 63)),zAF 62 (.bin 65 .eql (.t 64) (φ 4)),η (.pick 66 (.t 62) (χ true) (.t 65))] (.cond (.t 66) (ζ [θ 68 1,θ 69 7,Ψ 70 3 68 69,Γ 71 2 70,ψ 72 1 71,θ 73 8,Ψ 74 1 72 73,ψ 75 1 74,Θ 76 156 75,θ 67 76,Δ 77 67 0,Δ 78 67 1,θ 9 77,θ 10 78] (.seq (ζ [θ 79 10,η (.un 80 .not (.t 79)),θ 81 80,zAF 81 (.faddr 82 0 (.t 2)),zAF 81 (.load 83 1 false (.t 82)),zAF 81 (.bin 84 .eql (.t 83) (φ 2)),zAF 81 (.mov 85 (.t 84)),zAE 85 (.mov 86 (.t 9)),zAE 85 (.faddr 87 6 (.t 2)),zAE 85 (.load 88 1 false (.t 87)),zAE 85 (.bin 89 .lss (.t 86) (.t 88)),zAE 85 (.mov 90 (.t 89)),zAF 90 (.mov 91 (.t 9)),zAF 90 (.faddr 92 7 (.t 2)),zAF 90 (.load 93 1 false (.t 92)),zAF 90 (.bin 94 .gtr (.t 91) (.t 93)),zAE 85 (.pick 95 (.t 90) (χ true) (.t 94)),zAF 81 (.pick 96 (.t 85) (.t 95) (χ false)),η (.pick 97 (.t 81) (χ true) (.t 96))] (.cond (.t 97) (ζ [η (.mov 4 (χ false))] .ret) .skip)) (.region [θ 98 5,θ 99 9,zAB 100 .add 98 99,θ 5 100]))) .skip)))))))) (.region [θ 21 7,η (.bin 22 .add (.t 21) (φ 1)),θ 7 22])))
def f121:AQ:=(ζ [zAA 2 46 0,η (.mov 4 (χ false))] (.frz 2 (.seq (ζ [Γ 11 0 2,ψ 12 1 11,η (.bin 13 .eql (.t 12) (φ 3))] (.cond (.t 13) (ζ [ω 14 8 2,θ 15 1,Ξ 16 155 14 15,θ 4 16] .ret) .skip)) (ζ [η (.mov 5 (φ 0))] (ζ [η (.mov 6 (χ false))] (.seq (ζ [η (.mov 7 (φ 0))] (.block 0 f121l67)) (.seq (ζ [Γ 101 0 2,ψ 102 1 101] (.block 2 (ζ [η (.bin 104 .eql (.t 102) (φ 0)),θ 103 104] (.cond (.t 103) (ζ [θ 105 6,θ 4 105] .ret) (.seq (ζ [η (.bin 107 .eql (.t 102) (φ 1)),θ 106 107] (.cond (.t 106) .skip (.region [η (.bin 108 .eql (.t 102) (φ 2)),θ 106 108]))) (.cond (.t 106) (ζ [η (.mov 4 (χ true))] .ret) (ζ [η (.bin 110 .eql (.t 102) (φ 4)),θ 109 110] (.cond (.t 109) (ζ [Γ 111 6 2,ψ 112 1 111,θ 113 5,zAB 114 .leq 112 113,θ 115 114,zAE 115 (.mov 116 (.t 5)),zAE 115 (.faddr 117 7 (.t 2)),zAE 115 (.load 118 1 false (.t 117)),zAE 115 (.bin 119 .leq (.t 116) (.t 118)),η (.pick 120 (.t 115) (.t 119) (χ false)),θ 4 120] .ret) .skip)))))))) (ζ [η (.mov 4 (χ false))] .ret))))))))
theorem hf121:zH Tryz.prog 121=some ⟨121,f121.erase,[(RX.t 4)]⟩:=by kernel_rfl
theorem okf121:f121.ok=true:=by kernel_rfl
def Υ121:=PLift.up (uu f121.eq_1)
theorem Ψ121:type_of% Υ121.1:=Υ121.1
def f122l15:AQ:=.loop [0,1,5] [] (.seq (ζ [θ 6 5,θ 7 0,Ω 8 7,zAB 9 .lss 6 8] (.cond (.t 9) .skip (.exit 0))) (.seq (.block 1 (ζ [θ 12 0,θ 13 5,Ψ 14 1 12 13,ψ 15 1 14,θ 16 1,zAB 17 .and 15 16,η (.bin 18 .eql (.t 17) (φ 0))] (.cond (.t 18) (ζ [η (.mov 4 (χ true))] .ret) .skip))) (.region [θ 10 5,η (.bin 11 .add (.t 10) (φ 1)),θ 5 11])))
def f122:AQ:=(ζ [η (.mov 4 (χ false))] (.seq (ζ [η (.mov 5 (φ 0))] (.block 0 f122l15)) (ζ [η (.mov 4 (χ false))] .ret)))
theorem hf122:zH Tryz.prog 122=some ⟨19,f122.erase,[(RX.t 4)]⟩:=by kernel_rfl
theorem okf122:f122.ok=true:=by kernel_rfl
def Υ122:=PLift.up (uu f122.eq_1)
theorem Ψ122:type_of% Υ122.1:=Υ122.1
def f123l21:AQ:=.loop [1,2,5] [2] (.seq (ζ [θ 6 5,Γ 7 1 2,ψ 8 1 7,Ω 9 8,zAB 10 .lss 6 9] (.cond (.t 10) .skip (.exit 0))) (.seq (.block 1 (ζ [Γ 13 1 2,ψ 14 1 13,θ 15 5,Ψ 16 1 14 15,ψ 17 1 16,θ 18 1,zAB 19 .eql 17 18] (.cond (.t 19) (.seq (ζ [θ 20 5,Γ 21 2 2,ψ 22 1 21,Ω 23 22,zAB 24 .lss 20 23] (.cond (.t 24) (ζ [θ 25 5,θ 4 25] .ret) .skip)) (ζ [η (.mov 4 (.v (.k (.c (.int .i64 (-1))))))] .ret)) .skip))) (.region [θ 11 5,η (.bin 12 .add (.t 11) (φ 1)),θ 5 12])))
def f123:AQ:=(ζ [zAA 2 53 0,η (.mov 4 (φ 0))] (.frz 2 (.seq (ζ [η (.mov 5 (φ 0))] (.block 0 f123l21)) (ζ [η (.mov 4 (.v (.k (.c (.int .i64 (-1))))))] .ret))))
theorem hf123:zH Tryz.prog 123=some ⟨26,f123.erase,[(RX.t 4)]⟩:=by kernel_rfl
theorem okf123:f123.ok=true:=by kernel_rfl
def Υ123:=PLift.up (uu f123.eq_1)
theorem Ψ123:type_of% Υ123.1:=Υ123.1
def f156l23:AQ:=.loop [0,4,5] [] (.seq (ζ [θ 6 5,θ 7 0,η (.lenS 8 (.t 7)),zAB 9 .lss 6 8] (.cond (.t 9) .skip (.exit 0))) (.seq (.block 1 (.seq (ζ [θ 12 0,θ 13 5,η (.sidx 14 (.t 12) (.t 13)),Θ 15 114 14,η (.un 16 .not (.t 15)),θ 17 16,zAF 17 (.mov 18 (.t 4)),zAF 17 (.bin 19 .gtr (.t 18) (φ 1099511627776)),η (.pick 20 (.t 17) (χ true) (.t 19))] (.cond (.t 20) (ζ [η (.mov 2 (φ 0)),η (.mov 3 (χ false))] .ret) .skip)) (.region [θ 21 4,η (.bin 22 .mul (φ 10) (.t 21)),θ 23 0,θ 24 5,η (.sidx 25 (.t 23) (.t 24)),η (.conv 26 .i64 (.t 25)),zAB 27 .add 22 26,η (.bin 28 .sub (.t 27) (φ 48)),θ 4 28]))) (.region [θ 10 5,η (.bin 11 .add (.t 10) (φ 1)),θ 5 11])))
def f156:AQ:=(ζ [η (.mov 2 (φ 0)),η (.mov 3 (χ false))] (ζ [η (.mov 4 (φ 0))] (.seq (ζ [η (.mov 5 (φ 0))] (.block 0 f156l23)) (.seq (ζ [θ 29 0,η (.lenS 30 (.t 29)),η (.bin 31 .lss (.t 30) (φ 1)),θ 32 31,zAF 32 (.mov 33 (.t 0)),zAF 32 (.lenS 34 (.t 33)),zAF 32 (.bin 35 .gtr (.t 34) (φ 1)),zAF 32 (.mov 36 (.t 35)),zAE 36 (.mov 37 (.t 0)),zAE 36 (.sidx 38 (.t 37) (φ 0)),zAE 36 (.bin 39 .eql (.t 38) (.v (.k (.c (.int .u8 48))))),zAF 32 (.pick 40 (.t 36) (.t 39) (χ false)),η (.pick 41 (.t 32) (χ true) (.t 40)),θ 42 41,zAF 42 (.mov 43 (.t 4)),zAF 42 (.bin 44 .gtr (.t 43) (φ 1099511627776)),η (.pick 45 (.t 42) (χ true) (.t 44))] (.cond (.t 45) (ζ [η (.mov 2 (φ 0)),η (.mov 3 (χ false))] .ret) .skip)) (ζ [θ 46 4,θ 2 46,η (.mov 3 (χ true))] .ret)))))
theorem hf156:zH Tryz.prog 156=some ⟨47,f156.erase,[(RX.t 2),(RX.t 3)]⟩:=by kernel_rfl
theorem okf156:f156.ok=true:=by kernel_rfl
def Υ156:=PLift.up (uu f156.eq_1)
theorem Ψ156:type_of% Υ156.1:=Υ156.1
def f3r10o0:AI:=.mk none (.mov 85 (.t 0))
def f3r10o1:AI:=.mk none (.bslice 86 3 1 [(.int .i64 0)] 0 [])
def f3r10o2:AI:=.mk none (.mov 87 (.t 14))
def f3r10o3:AI:=.mk none (.mov 88 (.t 16))
def f3r10o4:AI:=.mk none (.slice 89 1 (.t 87) none (some (.t 88)))
def f3r10o5:AI:=.mk none (.append 90 3 1 8 (.t 86) (.t 89))
def f3r10o6:AI:=.mk none (.mov 91 (.t 14))
def f3r10o7:AI:=.mk none (.mov 92 (.t 16))
def f3r10o8:AI:=.mk none (.bin 93 .add (.t 92) (.v (.k (.c (.int .i64 1)))))
def f3r10o9:AI:=.mk none (.slice 94 1 (.t 91) (some (.t 93)) none)
def f3r10o10:AI:=.mk none (.append 95 3 1 8 (.t 90) (.t 94))
def f3r10o11:AI:=.mk none (.mov 96 (.t 1))
def f3r10o12:AI:=.mk none (.call (some 97) 11 [(.t 85),(.t 95),(.t 96)])
def f3r10o13:AI:=.mk none (.un 98 .not (.t 97))
def f3r10o14:AI:=.mk none (.mov 99 (.t 98))
def f3r10o15:AI:=.mk (some (99,false)) (.mov 100 (.t 14))
def f3r10o16:AI:=.mk (some (99,false)) (.mov 101 (.t 16))
def f3r10o17:AI:=.mk (some (99,false)) (.iaddr 102 1 (.t 100) (.t 101))
def f3r10o18:AI:=.mk (some (99,false)) (.load 103 1 false (.t 102))
def f3r10o19:AI:=.mk (some (99,false)) (.bin 104 .lss (.t 103) (.v (.k (.c (.int .i64 0)))))
def f3r10o20:AI:=.mk none (.pick 105 (.t 99) (.v (.k (.c (.bool true)))) (.t 104))
def f3r10o21:AI:=.mk none (.mov 106 (.t 105))
def f3r10o22:AI:=.mk (some (106,false)) (.mov 107 (.t 14))
def f3r10o23:AI:=.mk (some (106,false)) (.mov 108 (.t 16))
def f3r10o24:AI:=.mk (some (106,false)) (.iaddr 109 1 (.t 107) (.t 108))
def f3r10o25:AI:=.mk (some (106,false)) (.load 110 1 false (.t 109))
def f3r10o26:AI:=.mk (some (106,false)) (.bin 111 .gtr (.t 110) (.v (.k (.c (.int .i64 7)))))
def f3r10o27:AI:=.mk none (.pick 112 (.t 106) (.v (.k (.c (.bool true)))) (.t 111))
def f3l19:AQ:=.loop [0,1,2,7,8,10,12,13,14,15,16] [26,37,52,27000,27001,27002] (.seq (ζ [θ 79 16,θ 80 14,Ω 81 80,zAB 82 .lss 79 81] (.cond (.t 82) .skip (.exit 4))) (.seq (.block 5 (.seq (.seq (.tree [f3r10o0,f3r10o1,f3r10o2,f3r10o3,f3r10o4,f3r10o5,f3r10o6,f3r10o7,f3r10o8,f3r10o9,f3r10o10,f3r10o11,f3r10o12,f3r10o13,f3r10o14,f3r10o15,f3r10o16,f3r10o17,f3r10o18,f3r10o19,f3r10o20,f3r10o21,f3r10o22,f3r10o23,f3r10o24,f3r10o25,f3r10o26,f3r10o27] [[],[],[],[],[2,3],[1,4],[],[],[7],[6,8],[5,9,5],[],[0,10,11,10],[12],[13,12],[14],[14],[15,16,14],[17,14],[18,14],[14,19],[20,14],[21],[21],[22,23,21],[24,21],[25,21],[21,26]]) (.keep [0,1,2,7,8,10,12,13,14,15,16,112] [26,37,52,27000,27001,27002] (.cond (.t 112) (ζ [η (.mov 6 (χ false))] .ret) .skip))) (.region [θ 113 15,θ 114 113,zAE 114 (.mov 115 (.t 2)),zAE 114 (.mov 116 (.t 14)),zAE 114 (.mov 117 (.t 16)),zAE 114 (.iaddr 118 1 (.t 116) (.t 117)),zAE 114 (.load 119 1 false (.t 118)),zAE 114 (.bin 120 .shr (.t 115) (.t 119)),zAE 114 (.bin 121 .and (.t 120) (.v (.k (.c (.int .u8 1))))),zAE 114 (.bin 122 .eql (.t 121) (.v (.k (.c (.int .u8 1))))),η (.pick 123 (.t 114) (.t 122) (χ false)),θ 15 123]))) (.region [θ 83 16,η (.bin 84 .add (.t 83) (φ 1)),θ 16 84])))
def f3l44:AQ:=.loop [0,1,2,7,8,10,12,13] [26,37,52,27000,27001,27002] (.seq (ζ [θ 53 13,θ 54 8,Ω 55 54,zAB 56 .lss 53 55] (.cond (.t 56) .skip (.exit 2))) (.seq (.block 3 (ζ [θ 59 8,θ 60 13,Ψ 61 3 59 60,Γ 62 0 61,ψ 63 1 62,θ 14 63] (.seq (ζ [θ 64 8,θ 65 13,Ψ 66 3 64 65,Γ 67 2 66,ψ 68 1 67,η (.un 69 .not (.t 68))] (.cond (.t 69) (.exit 3) .skip)) (.seq (ζ [θ 70 14,Ω 71 70,η (.bin 72 .eql (.t 71) (φ 0)),θ 73 72,zAF 73 (.mov 74 (.t 0)),zAF 73 (.mov 75 (.t 14)),zAF 73 (.mov 76 (.t 1)),zAF 73 (.call (some 77) 11 [(.t 74),(.t 75),(.t 76)]),η (.pick 78 (.t 73) (χ true) (.t 77))] (.cond (.t 78) (ζ [η (.mov 6 (χ false))] .ret) .skip)) (ζ [η (.mov 15 (χ true))] (.seq (ζ [η (.mov 16 (φ 0))] (.block 4 f3l19)) (.region [θ 124 12,θ 125 124,zAF 125 (.mov 126 (.t 15)),η (.pick 127 (.t 125) (χ true) (.t 126)),θ 12 127]))))))) (.region [θ 57 13,η (.bin 58 .add (.t 57) (φ 1)),θ 13 58])))
def f3l62:AQ:=.loop [0,1,2,7,8,10,11] [26,37,52,27000,27001,27002] (.seq (ζ [θ 38 11,θ 39 0,Ω 40 39,zAB 41 .lss 38 40] (.cond (.t 41) .skip (.exit 0))) (.seq (.block 1 (ζ [θ 44 2,θ 45 11,zAB 46 .shr 44 45,η (.bin 47 .and (.t 46) (.v (.k (.c (.int .u8 1))))),η (.bin 48 .eql (.t 47) (.v (.k (.c (.int .u8 1)))))] (.cond (.t 48) (.region [θ 49 10,θ 50 11,η (.bslice 51 3 1 [(.int .i64 0)] 1 [(0,(.t 50))]),η (.append 52 3 1 8 (.t 49) (.t 51)),θ 10 52]) .skip))) (.region [θ 42 11,η (.bin 43 .add (.t 42) (φ 1)),θ 11 43])))
def f3:AQ:=(ζ [η (.mov 6 (χ false))] (ζ [η (.call (some 17) 8 []),θ 7 17] (.seq (ζ [θ 18 0,θ 19 1,Ξ 20 9 18 19,η (.un 21 .not (.t 20))] (.cond (.t 21) (ζ [θ 22 7,θ 6 22] .ret) .skip)) (ζ [θ 24 0,θ 25 1,Ξ 26 10 24 25,θ 23 26,Δ 27 23 0,Δ 28 23 1,θ 8 27,θ 9 28] (.seq (ζ [θ 29 9,η (.bin 30 .neq (.t 29) (φ 0))] (.cond (.t 30) (ζ [θ 31 7,θ 32 31,zAE 32 (.mov 33 (.t 8)),zAE 32 (.len 34 (.t 33)),zAE 32 (.bin 35 .eql (.t 34) (φ 0)),η (.pick 36 (.t 32) (.t 35) (χ false)),θ 6 36] .ret) .skip)) (ζ [η (.bslice 37 3 1 [(.int .i64 0)] 0 []),θ 10 37] (.seq (ζ [η (.mov 11 (φ 0))] (.block 0 f3l62)) (ζ [η (.mov 12 (χ false))] (.seq (ζ [η (.mov 13 (φ 0))] (.block 2 f3l44)) (ζ [θ 128 7,θ 129 128,zAE 129 (.mov 130 (.t 12)),zAE 129 (.mov 131 (.t 0)),zAE 129 (.mov 132 (.t 10)),zAE 129 (.mov 133 (.t 1)),zAE 129 (.call (some 134) 11 [(.t 131),(.t 132),(.t 133)]),zAE 129 (.un 135 .not (.t 134)),zAE 129 (.binB 136 false (.t 130) (.t 135)),η (.pick 137 (.t 129) (.t 136) (χ false)),θ 6 137] .ret))))))))))
theorem hf3:zH Tryz.prog 3=some ⟨138,f3.erase,[(RX.t 6)]⟩:=by kernel_rfl
def f8:AQ:=(ζ [η (.mov 0 (χ false))] (ζ [η (.call (some 22) 29 []),θ 21 22,Δ 23 21 0,Δ 24 21 1,θ 1 23,θ 2 24] (.seq (.regf [η (.build 25 [(.int .i64 0),(.int .i64 0)] [(0,(1,(φ 0))),(1,(1,(φ 0)))]),η (.bslice 26 64 2 [(.int .i64 0),(.int .i64 0)] 1 [(0,(.t 25))])] [26] [θ 3 26]) (ζ [θ 28 1,η (.slice 29 8 (.t 28) (some (φ 2)) (some (φ 3))),θ 30 2,Ξ 31 10 29 30,θ 27 31,Δ 32 27 0,Δ 33 27 1,θ 4 32,θ 5 33] (.seq (.draw [θ 35 1,η (.iaddr 36 8 (.t 35) (φ 0)),ω 37 8 36,θ 38 1,η (.iaddr 39 8 (.t 38) (φ 2)),ω 40 8 39,η (.bslice 41 46 8 [(.int .i64 0),(.str []),(.str []),(.str []),(.str []),(.str []),(.int .i64 0),(.int .i64 0)] 2 [(0,(.t 37)),(1,(.t 40))]),θ 42 2,Ξ 43 10 41 42,θ 34 43,Δ 44 34 0,Δ 45 34 1,θ 6 44,θ 7 45] [[],[0],[1],[],[3],[4],[2,5],[],[6,7],[8],[9],[9],[10,8,0,1,2,3,4,5,6,7,8,9,10],[11,12,0,1,2,3,4,5,6,7,8,9,10,11,12]]) (ζ [θ 47 1,θ 48 2,Ξ 49 10 47 48,θ 46 49,Δ 50 46 0,Δ 51 46 1,θ 8 50,θ 9 51] (ζ [θ 53 1,η (.slice 54 8 (.t 53) (some (φ 2)) (some (φ 3))),θ 55 2,Ξ 56 12 54 55,θ 52 56,Δ 57 52 0,Δ 58 52 1,θ 10 57,θ 11 58] (.seq (.draw [θ 60 1,η (.iaddr 61 8 (.t 60) (φ 0)),ω 62 8 61,θ 63 1,η (.iaddr 64 8 (.t 63) (φ 2)),ω 65 8 64,η (.bslice 66 46 8 [(.int .i64 0),(.str []),(.str []),(.str []),(.str []),(.str []),(.int .i64 0),(.int .i64 0)] 2 [(0,(.t 62)),(1,(.t 65))]),θ 67 2,Ξ 68 12 66 67,θ 59 68,Δ 69 59 0,Δ 70 59 1,θ 12 69,θ 13 70] [[],[0],[1],[],[3],[4],[2,5],[],[6,7],[8],[9],[9],[10,8,0,1,2,3,4,5,6,7,8,9,10],[11,12,0,1,2,3,4,5,6,7,8,9,10,11,12]]) (ζ [θ 72 1,θ 73 2,Ξ 74 12 72 73,θ 71 74,Δ 75 71 0,Δ 76 71 1,θ 14 75,θ 15 76] (ζ [θ 78 2,Θ 79 13 78,θ 77 79,Δ 80 77 0,Δ 81 77 1,θ 16 80,θ 17 81] (ζ [θ 83 2,η (.call (some 84) 14 [(.t 83),(φ 1)]),θ 82 84,Δ 85 82 0,Δ 86 82 1,θ 18 85,θ 19 86] (.seq (ζ [θ 87 5,η (.bin 88 .neq (.t 87) (φ 0)),θ 89 88,zAF 89 (.mov 90 (.t 7)),zAF 89 (.bin 91 .neq (.t 90) (φ 0)),η (.pick 92 (.t 89) (χ true) (.t 91)),θ 93 92,zAF 93 (.mov 94 (.t 9)),zAF 93 (.bin 95 .neq (.t 94) (φ 0)),η (.pick 96 (.t 93) (χ true) (.t 95)),θ 97 96,zAF 97 (.mov 98 (.t 11)),zAF 97 (.bin 99 .neq (.t 98) (φ 0)),η (.pick 100 (.t 97) (χ true) (.t 99)),θ 101 100,zAF 101 (.mov 102 (.t 13)),zAF 101 (.bin 103 .neq (.t 102) (φ 0)),η (.pick 104 (.t 101) (χ true) (.t 103)),θ 105 104,zAF 105 (.mov 106 (.t 15)),zAF 105 (.bin 107 .neq (.t 106) (φ 0)),η (.pick 108 (.t 105) (χ true) (.t 107)),θ 109 108,zAF 109 (.mov 110 (.t 17)),zAF 109 (.bin 111 .neq (.t 110) (φ 0)),η (.pick 112 (.t 109) (χ true) (.t 111)),θ 113 112,zAF 113 (.mov 114 (.t 19)),zAF 113 (.bin 115 .neq (.t 114) (φ 0)),η (.pick 116 (.t 113) (χ true) (.t 115)),θ 117 116,zAF 117 (.mov 118 (.t 16)),zAF 117 (.bin 119 .neq (.t 118) (φ 2)),η (.pick 120 (.t 117) (χ true) (.t 119)),θ 121 120,zAF 121 (.mov 122 (.t 18)),zAF 121 (.len 123 (.t 122)),zAF 121 (.bin 124 .neq (.t 123) (φ 1)),η (.pick 125 (.t 121) (χ true) (.t 124)),θ 126 125,zAF 126 (.mov 127 (.t 18)),zAF 126 (.iaddr 128 3 (.t 127) (φ 0)),zAF 126 (.faddr 129 2 (.t 128)),zAF 126 (.load 130 1 false (.t 129)),zAF 126 (.len 131 (.t 130)),zAF 126 (.bin 132 .neq (.t 131) (φ 2)),η (.pick 133 (.t 126) (χ true) (.t 132))] (.cond (.t 133) (ζ [η (.mov 0 (χ false))] .ret) .skip)) (.seq (.regs [([θ 134 4,Ω 135 134,η (.bin 136 .eql (.t 135) (φ 0)),θ 137 136,zAE 137 (.mov 138 (.t 10)),zAE 137 (.bin 139 .eql (.t 138) (φ 1)),η (.pick 140 (.t 137) (.t 139) (χ false)),θ 141 140,zAE 141 (.mov 142 (.t 6)),zAE 141 (.bslice 143 3 1 [(.int .i64 0)] 1 [(0,(φ 0))])],[143]),([zAE 141 (.mov 144 (.t 3)),zAE 141 (.build 145 [(.list 0 (some true) []),(.list 0 (some true) []),(.bool false)] [(0,(1,(.t 143))),(1,(1,(.t 144)))]),zAE 141 (.bslice 146 33 3 [(.list 0 (some true) []),(.list 0 (some true) []),(.bool false)] 1 [(0,(.t 145))])],[146]),([zAE 141 (.call (some 147) 25 [(.t 142),(.t 146)]),η (.pick 148 (.t 141) (.t 147) (χ false)),θ 149 148,zAE 149 (.mov 150 (.t 12)),zAE 149 (.bin 151 .eql (.t 150) (φ 2)),η (.pick 152 (.t 149) (.t 151) (χ false)),θ 153 152,zAE 153 (.mov 154 (.t 18)),zAE 153 (.iaddr 155 3 (.t 154) (φ 0)),zAE 153 (.faddr 156 2 (.t 155)),zAE 153 (.load 157 1 false (.t 156)),zAE 153 (.iaddr 158 1 (.t 157) (φ 0)),zAE 153 (.load 159 1 false (.t 158)),zAE 153 (.bin 160 .eql (.t 159) (.v (.k (.c (.str [55,48,48]))))),η (.pick 161 (.t 153) (.t 160) (χ false)),θ 20 161],[])]) (.seq (.regs [([θ 162 20,θ 163 162,zAE 163 (.mov 164 (.t 14)),zAE 163 (.bin 165 .eql (.t 164) (φ 0)),η (.pick 166 (.t 163) (.t 165) (χ false)),θ 167 166,zAE 167 (.mov 168 (.t 8)),zAE 167 (.bslice 169 3 1 [(.int .i64 0)] 1 [(0,(φ 3))])],[169]),([zAE 167 (.build 170 [(.list 0 (some true) []),(.list 0 (some true) []),(.bool false)] [(0,(1,(.t 169))),(2,(1,(χ true)))]),zAE 167 (.bslice 171 3 1 [(.int .i64 0)] 2 [(0,(φ 0)),(1,(φ 1))])],[171]),([zAE 167 (.mov 172 (.t 3)),zAE 167 (.build 173 [(.list 0 (some true) []),(.list 0 (some true) []),(.bool false)] [(0,(1,(.t 171))),(1,(1,(.t 172))),(2,(1,(χ true)))]),zAE 167 (.bslice 174 3 1 [(.int .i64 0)] 1 [(0,(φ 0))])],[174]),([zAE 167 (.mov 175 (.t 3)),zAE 167 (.build 176 [(.list 0 (some true) []),(.list 0 (some true) []),(.bool false)] [(0,(1,(.t 174))),(1,(1,(.t 175)))]),zAE 167 (.bslice 177 3 1 [(.int .i64 0)] 1 [(0,(φ 1))])],[177]),([zAE 167 (.mov 178 (.t 3)),zAE 167 (.build 179 [(.list 0 (some true) []),(.list 0 (some true) []),(.bool false)] [(0,(1,(.t 177))),(1,(1,(.t 178)))]),zAE 167 (.bslice 180 33 3 [(.list 0 (some true) []),(.list 0 (some true) []),(.bool false)] 4 [(0,(.t 170)),(1,(.t 173)),(2,(.t 176)),(3,(.t 179))])],[180]),([zAE 167 (.call (some 181) 25 [(.t 168),(.t 180)]),η (.pick 182 (.t 167) (.t 181) (χ false)),θ 0 182],[])]) .ret))))))))))))))
theorem hf8:zH Tryz.prog 8=some ⟨183,f8.erase,[(RX.t 0)]⟩:=by kernel_rfl
theorem okf8:f8.ok=true:=by kernel_rfl
def Υ8:=PLift.up (uu f8.eq_1)
theorem Ψ8:type_of% Υ8.1:=Υ8.1
def f65:AQ:=(ζ [η (.mov 2 (φ 0))] (.seq (.cond (.v (.k (.c (.bool false)))) (ζ [θ 3 0,η (.conv 4 .u32 (.t 3)),Θ 5 103 4,θ 2 5] .ret) .skip) (ζ [θ 6 0,Θ 7 104 6,θ 2 7] .ret)))
theorem hf65:zH Tryz.prog 65=some ⟨8,f65.erase,[(RX.t 2)]⟩:=by kernel_rfl
theorem okf65:f65.ok=true:=by kernel_rfl
def Υ65:=PLift.up (uu f65.eq_1)
theorem Ψ65:type_of% Υ65.1:=Υ65.1
def f75:AQ:=(ζ [η (.mov 2 (φ 0))] (.seq (.cond (.v (.k (.c (.bool false)))) (ζ [θ 3 0,η (.conv 4 .u32 (.t 3)),Θ 5 110 4,θ 2 5] .ret) .skip) (ζ [θ 6 0,Θ 7 111 6,θ 2 7] .ret)))
theorem hf75:zH Tryz.prog 75=some ⟨8,f75.erase,[(RX.t 2)]⟩:=by kernel_rfl
theorem okf75:f75.ok=true:=by kernel_rfl
def Υ75:=PLift.up (uu f75.eq_1)
theorem Ψ75:type_of% Υ75.1:=Υ75.1
def f104:AQ:=(ζ [η (.mov 2 (φ 0))] (ζ [θ 3 0,η (.bin 4 .shr (.t 3) (.v (.k (.c (.int .u64 1))))),η (.bin 5 .and (.t 4) (.v (.k (.c (.int .u64 6148914691236517205))))),θ 6 0,η (.bin 7 .and (.t 6) (.v (.k (.c (.int .u64 6148914691236517205))))),zAB 8 .add 5 7,θ 0 8] (ζ [θ 9 0,η (.bin 10 .shr (.t 9) (.v (.k (.c (.int .u64 2))))),η (.bin 11 .and (.t 10) (.v (.k (.c (.int .u64 3689348814741910323))))),θ 12 0,η (.bin 13 .and (.t 12) (.v (.k (.c (.int .u64 3689348814741910323))))),zAB 14 .add 11 13,θ 0 14] (ζ [θ 15 0,η (.bin 16 .shr (.t 15) (.v (.k (.c (.int .u64 4))))),θ 17 0,zAB 18 .add 16 17,η (.bin 19 .and (.t 18) (.v (.k (.c (.int .u64 1085102592571150095))))),θ 0 19] (ζ [θ 20 0,θ 21 0,η (.bin 22 .shr (.t 21) (.v (.k (.c (.int .u64 8))))),zAB 23 .add 20 22,θ 0 23] (ζ [θ 24 0,θ 25 0,η (.bin 26 .shr (.t 25) (.v (.k (.c (.int .u64 16))))),zAB 27 .add 24 26,θ 0 27] (ζ [θ 28 0,θ 29 0,η (.bin 30 .shr (.t 29) (.v (.k (.c (.int .u64 32))))),zAB 31 .add 28 30,θ 0 31] (ζ [θ 32 0,η (.conv 33 .i64 (.t 32)),η (.bin 34 .and (.t 33) (φ 127)),θ 2 34] .ret))))))))
theorem hf104:zH Tryz.prog 104=some ⟨35,f104.erase,[(RX.t 2)]⟩:=by kernel_rfl
theorem okf104:f104.ok=true:=by kernel_rfl
def Υ104:=PLift.up (uu f104.eq_1)
theorem Ψ104:type_of% Υ104.1:=Υ104.1
def f4l17:AQ:=.loop [0,1,7,8,10,12,14,15,16,17,18,19,20,24,25] [20,35,77,82,36000,36001,36002,78000,78001,78002,83000,83001,83002] (.seq (ζ [θ 178 25,θ 179 12,zAB 180 .lss 178 179] (.cond (.t 180) .skip (.exit 6))) (.seq (.block 7 (.region [θ 183 24,θ 184 183,zAE 184 (.mov 185 (.t 0)),zAE 184 (.faddr 186 0 (.t 20)),zAE 184 (.load 187 1 false (.t 186)),zAE 184 (.mov 188 (.t 1)),zAE 184 (.mov 189 (.t 25)),zAE 184 (.call (some 190) 17 [(.t 185),(.t 187),(.t 188),(.t 189)]),η (.pick 191 (.t 184) (.t 190) (χ false)),θ 24 191])) (.region [θ 181 25,η (.bin 182 .add (.t 181) (φ 1)),θ 25 182])))
def f4l38:AQ:=.loop [0,1,7,8,10,12,14,15,16,17,18,19,20,22,23] [20,35,77,82,36000,36001,36002,78000,78001,78002,83000,83001,83002] (.seq (ζ [θ 121 23,Γ 122 0 20,ψ 123 1 122,Ω 124 123,zAB 125 .lss 121 124] (.cond (.t 125) .skip (.exit 4))) (.seq (.block 5 (.region [θ 128 22,θ 129 0,Γ 130 0 20,ψ 131 1 130,θ 132 23,Ψ 133 1 131 132,ψ 134 1 133,Ψ 135 8 129 134,ω 136 8 135,θ 137 14,Ξ 138 16 136 137,Ω 139 138,zAB 140 .add 128 139,θ 22 140])) (.region [θ 126 23,η (.bin 127 .add (.t 126) (φ 1)),θ 23 127])))
def f4l56:AQ:=.loop [0,1,7,8,10,12,14,15,16,17,18,19,20,21] [20,35,77,82,36000,36001,36002,78000,78001,78002,83000,83001,83002] (.seq (ζ [θ 98 21,θ 99 16,Ω 100 99,zAB 101 .lss 98 100] (.cond (.t 101) .skip (.exit 2))) (.seq (.block 3 (.seq (.draw [Γ 104 0 20,ψ 105 1 104,Ω 106 105,η (.bin 107 .eql (.t 106) (φ 1)),θ 108 107,zAE 108 (.faddr 109 0 (.t 20)),zAE 108 (.load 110 1 false (.t 109)),zAE 108 (.iaddr 111 1 (.t 110) (φ 0)),zAE 108 (.load 112 1 false (.t 111)),zAE 108 (.mov 113 (.t 16)),zAE 108 (.mov 114 (.t 21)),zAE 108 (.iaddr 115 1 (.t 113) (.t 114)),zAE 108 (.load 116 1 false (.t 115)),zAE 108 (.bin 117 .eql (.t 112) (.t 116)),η (.pick 118 (.t 108) (.t 117) (χ false))] [[],[0],[1],[2],[3],[4],[5,4],[6,4],[7,4],[4],[4],[9,10,4],[11,4],[8,12,4],[4,13]]) (.cond (.t 118) (.region [θ 119 17,η (.bin 120 .add (.t 119) (φ 1)),θ 17 120]) .skip))) (.region [θ 102 21,η (.bin 103 .add (.t 102) (φ 1)),θ 21 103])))
def f4l71:AQ:=.loop [0,1,7,8,10,12,14,15,16,17,18,19] [35,77,82,36000,36001,36002,78000,78001,78002,83000,83001,83002] (.seq (ζ [θ 83 19,θ 84 8,Ω 85 84,zAB 86 .lss 83 85] (.cond (.t 86) .skip (.exit 0))) (.seq (.block 1 (ζ [θ 89 8,θ 90 19,Ψ 91 3 89 90,ω 92 3 91,η (.alloc 20 33 [(.list 0 (some true) []),(.list 0 (some true) []),(.bool false)]),Φ 3 20 92] (.frz 20 (ζ [θ 93 18,θ 94 93,zAF 94 (.faddr 95 2 (.t 20)),zAF 94 (.load 96 1 false (.t 95)),η (.pick 97 (.t 94) (χ true) (.t 96)),θ 18 97] (.seq (ζ [η (.mov 21 (φ 0))] (.block 2 f4l56)) (ζ [η (.mov 22 (φ 0))] (.seq (ζ [η (.mov 23 (φ 0))] (.block 4 f4l38)) (.seq (ζ [θ 141 22,Γ 142 1 20,ψ 143 1 142,Ω 144 143,zAB 145 .lss 141 144,θ 146 145,zAF 146 (.mov 147 (.t 22)),zAF 146 (.bin 148 .gtr (.t 147) (φ 0)),zAF 146 (.mov 149 (.t 148)),zAE 149 (.faddr 150 1 (.t 20)),zAE 149 (.load 151 1 false (.t 150)),zAE 149 (.len 152 (.t 151)),zAE 149 (.bin 153 .eql (.t 152) (φ 0)),zAF 146 (.pick 154 (.t 149) (.t 153) (χ false)),η (.pick 155 (.t 146) (χ true) (.t 154)),θ 156 155,zAF 156 (.faddr 157 2 (.t 20)),zAF 156 (.load 158 1 false (.t 157)),zAF 156 (.un 159 .not (.t 158)),zAF 156 (.mov 160 (.t 159)),zAE 160 (.faddr 161 0 (.t 20)),zAE 160 (.load 162 1 false (.t 161)),zAE 160 (.len 163 (.t 162)),zAE 160 (.bin 164 .neq (.t 163) (φ 1)),zAE 160 (.mov 165 (.t 164)),zAF 165 (.mov 166 (.t 0)),zAF 165 (.faddr 167 0 (.t 20)),zAF 165 (.load 168 1 false (.t 167)),zAF 165 (.mov 169 (.t 1)),zAF 165 (.call (some 170) 11 [(.t 166),(.t 168),(.t 169)]),zAF 165 (.un 171 .not (.t 170)),zAE 160 (.pick 172 (.t 165) (χ true) (.t 171)),zAF 156 (.pick 173 (.t 160) (.t 172) (χ false)),η (.pick 174 (.t 156) (χ true) (.t 173))] (.cond (.t 174) (ζ [η (.mov 6 (χ false))] .ret) .skip)) (ζ [Γ 175 2 20,ψ 176 1 175,η (.un 177 .not (.t 176)),θ 24 177] (.seq (ζ [η (.mov 25 (φ 0))] (.block 6 f4l17)) (ζ [θ 192 24] (.cond (.t 192) (ζ [η (.mov 6 (χ false))] .ret) .skip)))))))))))) (.region [θ 87 19,η (.bin 88 .add (.t 87) (φ 1)),θ 19 88])))
def f4:AQ:=(ζ [η (.mov 6 (χ false))] (ζ [η (.call (some 26) 8 []),θ 7 26] (.seq (ζ [θ 27 0,θ 28 1,Ξ 29 9 27 28,η (.un 30 .not (.t 29))] (.cond (.t 30) (ζ [θ 31 7,θ 6 31] .ret) .skip)) (ζ [θ 33 0,θ 34 1,Ξ 35 10 33 34,θ 32 35,Δ 36 32 0,Δ 37 32 1,θ 8 36,θ 9 37] (ζ [θ 39 0,θ 40 1,Ξ 41 12 39 40,θ 38 41,Δ 42 38 0,Δ 43 38 1,θ 10 42,θ 11 43] (ζ [θ 45 1,Θ 46 13 45,θ 44 46,Δ 47 44 0,Δ 48 44 1,θ 12 47,θ 13 48] (.seq (ζ [θ 49 9,η (.bin 50 .neq (.t 49) (φ 0))] (.cond (.t 50) (ζ [θ 51 7,θ 52 51,zAE 52 (.mov 53 (.t 11)),zAE 52 (.mov 54 (.t 9)),zAE 52 (.bin 55 .eql (.t 53) (.t 54)),η (.pick 56 (.t 52) (.t 55) (χ false)),θ 57 56,zAE 57 (.mov 58 (.t 10)),zAE 57 (.bin 59 .eql (.t 58) (φ 0)),η (.pick 60 (.t 57) (.t 59) (χ false)),θ 6 60] .ret) .skip)) (.seq (ζ [θ 61 11,η (.bin 62 .neq (.t 61) (φ 0)),θ 63 62,zAF 63 (.mov 64 (.t 13)),zAF 63 (.bin 65 .neq (.t 64) (φ 0)),η (.pick 66 (.t 63) (χ true) (.t 65)),θ 67 66,zAF 67 (.mov 68 (.t 12)),zAF 67 (.bin 69 .lss (.t 68) (φ 1)),η (.pick 70 (.t 67) (χ true) (.t 69))] (.cond (.t 70) (ζ [η (.mov 6 (χ false))] .ret) .skip)) (ζ [θ 72 1,θ 73 2,η (.conv 74 .i64 (.t 73)),θ 75 12,zAB 76 .rem 74 75,Ξ 77 14 72 76,θ 71 77,Δ 78 71 0,Δ 79 71 1,θ 14 78,θ 15 79] (ζ [θ 80 0,θ 81 14,Ξ 82 15 80 81,θ 16 82] (ζ [η (.mov 17 (φ 0))] (ζ [η (.mov 18 (χ false))] (.seq (ζ [η (.mov 19 (φ 0))] (.block 0 f4l71)) (ζ [θ 193 7,θ 194 193,zAE 194 (.mov 195 (.t 15)),zAE 194 (.bin 196 .eql (.t 195) (φ 0)),η (.pick 197 (.t 194) (.t 196) (χ false)),θ 198 197,zAE 198 (.mov 199 (.t 17)),zAE 198 (.mov 200 (.t 16)),zAE 198 (.len 201 (.t 200)),zAE 198 (.bin 202 .eql (.t 199) (.t 201)),η (.pick 203 (.t 198) (.t 202) (χ false)),θ 204 203,zAE 204 (.mov 205 (.t 10)),zAE 204 (.bin 206 .eql (.t 205) (φ 0)),zAE 204 (.mov 207 (.t 18)),zAE 204 (.binB 208 false (.t 206) (.t 207)),η (.pick 209 (.t 204) (.t 208) (χ false)),θ 210 209,zAE 210 (.mov 211 (.t 10)),zAE 210 (.bin 212 .eql (.t 211) (φ 1)),zAE 210 (.mov 213 (.t 8)),zAE 210 (.len 214 (.t 213)),zAE 210 (.bin 215 .eql (.t 214) (φ 0)),zAE 210 (.binB 216 false (.t 212) (.t 215)),η (.pick 217 (.t 210) (.t 216) (χ false)),θ 6 217] .ret))))))))))))))
theorem hf4:zH Tryz.prog 4=some ⟨218,f4.erase,[(RX.t 6)]⟩:=by kernel_rfl
end Go.Abs
namespace Go.Abs
theorem wrap_in {n:Int} (h1: -9223372036854775808<=n) (h2:n<=9223372036854775807):IntKind.i64.wrap n=n:=IntWalk.i64_in n ⟨h1,h2⟩
def zF (sz:Nat) (rows:List (List C)):C:=.list (if rows.isEmpty then 0 else sz) none rows
abbrev lst (sz:Nat) (rows:List (List C)):V:=.k (.c (zF sz rows))
def zG (l:List Int):List (List C):=l.map fun n=>[.int .i64 n]
theorem zB {α:Type} (f:α->List C) (l:List α):(l.map f).length=l.length:=by simp
theorem yK {α:Type} {f:α->List C} (hf: ∀x,C.normRow (f x)=f x) (l:List α):C.normRows (l.map f)=l.map f:=by
 induction l with
 |nil=>rfl
 |cons a l ih=>simp[C.normRows,hf,ih]
theorem zS {α:Type} {f:α->List C} (hf: ∀x,C.normRow (f x)=f x) (sz:Nat) (l:List α):(zF sz (l.map f)).norm=zF sz (l.map f):=by
 unfold zF;simp only[C.norm,yK hf];cases l<;>simp
inductive Term where
 |mk (op n:Int) (args:List Term)
 deriving Inhabited
def Term.op:Term->Int| .mk o _ _=>o
def Term.n:Term->Int| .mk _ n _=>n
def Term.args:Term->List Term| .mk _ _ a=>a
mutual
def rK:Term->List C
 | .mk o n a=>[.int .i64 o,.int .i64 n,zF 3 (encTs a)]
def encTs:List Term->List (List C)
 |[]=>[]
 |t::l=>rK t::encTs l
end
theorem ziQ: ∀(l:List Term),encTs l=l.map rK
 |[]=>rfl
 |t::l=>by simp[encTs,ziQ l]
theorem iF (t:Term):rK t=[.int .i64 t.op,.int .i64 t.n,zF 3 (t.args.map rK)]:=by
 cases t with
 |mk o n a=>simp[rK,Term.op,Term.n,Term.args,ziQ]
mutual
theorem eW: ∀(t:Term),C.normRow (rK t)=rK t
 | .mk o n a=>by
   simp only[rK,C.normRow,C.norm,zF,encTs_norm a];cases a<;>simp[encTs]
theorem encTs_norm: ∀(l:List Term),C.normRows (encTs l)=encTs l
 |[]=>rfl
 |t::l=>by simp only[encTs,C.normRows,eW t,encTs_norm l]
end
structure Choice where
 ask:Int
 by_:Int
 whole:Bool
 deriving Inhabited
structure Rule where
 ask:Int
 term:Term
 deriving Inhabited
structure Order where
 name:List UInt8
 accepts:Bool
 choices:List Choice
 rules:List Rule
 deriving Inhabited
def qD (c:Choice):List C:=[.int .i64 c.ask,.int .i64 c.by_,.bool c.whole]
def rL (r:Rule):List C:=.int .i64 r.ask::rK r.term
def qE (o:Order):List C:=[.str o.name,.bool o.accepts,zF 3 (o.choices.map qD),zF 4 (o.rules.map rL)]
theorem zaR (c:Choice):C.normRow (qD c)=qD c:=rfl
theorem zaS (r:Rule):C.normRow (rL r)=rL r:=by simp[rL,C.normRow,C.norm,eW]
theorem ziR (o:Order):C.normRow (qE o)=qE o:=by
 simp only[qE,C.normRow,C.norm,zS zaR,zS zaS]
structure Cell where
 known:Bool
 n:Int
 deriving Inhabited
def qS (c:Cell):List C:=[.bool c.known,.int .i64 c.n]
theorem ziS (c:Cell):C.normRow (qS c)=qS c:=rfl
def ziT (n:Int):List C:=[.int .i64 n]
@[simp] theorem zr6 (k:IntKind) (n:Int):C.normRow [.int k n]=[.int k n]:=rfl
@[simp] theorem zr7 (n:Int):C.normRow (ziT n)=ziT n:=rfl
attribute [simp] eW zaR zaS ziR ziS C.normRow
@[simp] theorem zr8 (k:IntKind) (n:Int):(C.int k n).norm=.int k n:=rfl
@[simp] theorem zr9 (b:Bool):(C.bool b).norm=.bool b:=rfl
@[simp] theorem zsa (s:List UInt8):(C.str s).norm=.str s:=rfl
@[simp] theorem zsb (row:List C) (off:Nat):(C.ro row off).norm=.ro (C.normRow row) off:=rfl
@[simp] theorem zsc (f:FuncId) (caps:List C):(C.fn f caps).norm=.fn f (C.normRow caps):=rfl
@[simp] theorem zsd (l:List Term):C.normRows (l.map rK)=l.map rK:=yK eW l
@[simp] theorem zse (l:List Choice):C.normRows (l.map qD)=l.map qD:=yK zaR l
@[simp] theorem zsf (l:List Rule):C.normRows (l.map rL)=l.map rL:=yK zaS l
@[simp] theorem zsg (l:List Order):C.normRows (l.map qE)=l.map qE:=yK ziR l
@[simp] theorem zsh (l:List Cell):C.normRows (l.map qS)=l.map qS:=yK ziS l
@[simp] theorem wD (l:List Int):C.normRows (zG l)=zG l:=yK (fun _=>rfl) l
@[simp] theorem zsi:C.normRows []=[]:=rfl
@[simp] theorem eX (r:List C) (l:List (List C)):C.normRows (r::l)=C.normRow r::C.normRows l:=rfl
@[simp] theorem yF (l:List Int):(zG l).length=l.length:=by simp[zG]
theorem zog {l:List Int} {i:Nat} (h:i<l.length):(zG l).getD i []=[.int .i64 l[i]]:=by simp[zG,h]
@[simp] theorem zsj (l:List Int):(zG l).isEmpty=l.isEmpty:=by cases l<;>rfl
theorem eY (l:List Int) (n:Int):zG l++[[.int .i64 n]]=zG (l++[n]):=by simp[zG]
theorem ziU (o:Nat->Option O) (sz:Nat) (rows:List (List C)):vLen o (.k (.c (zF sz rows)))=some (True,.int .i64 rows.length):=rfl
theorem ziV (o:Nat->Option O) (sz:Nat) (rows:List (List C)) (k:IntKind) (n:Int):vIaddr o sz (.k (.c (zF sz rows))) (.k (.c (.int k n)))=some (0<=n/\n<rows.length,.k (.pel sz rows n.toNat 0)):=by
 simp only[zF,vIaddr,Zg,Xj];cases rows with
 |nil=>simp;omega
 |cons a l=>
  refine⟨?_,?_⟩
  ·simp
  ·simp
def zaT (sz:Nat) (rows:List (List C)):Option Int->Option Int->Option (Prop×V)
 |some l,some h=>some (0<=l/\l<=h/\h<=rows.length,.list sz none ((rows.take h.toNat).drop l.toNat))
 |_,_=>none
theorem lV (sz:Nat) (lo hi:Option V) (rows:List (List C)):rS sz lo hi (.k (.c (zF sz rows)))=zaT sz rows (vBound 0 lo) (vBound rows.length hi):=by
 simp only[zF,rS];generalize vBound 0 lo=a;generalize vBound (↑rows.length) hi=b;cases a<;>cases b<;>simp only[kZ,zaT]
 simp only[Zg,Xj,and_true];cases rows<;>simp
theorem lW (sz:Nat) (rows:List (List C)) (l h:Int):zaT sz rows (some l) (some h)=some (0<=l/\l<=h/\h<=rows.length,.list sz none ((rows.take h.toNat).drop l.toNat)):=id rfl
theorem ziW (os:OS) (sz:Nat) (rows:List (List C)):srcV os sz (.k (.c (zF sz rows)))=some (True,rows):=by
 simp only[zF,srcV];cases rows<;>simp
@[simp] theorem zI (sz:Nat) (rows:List (List C)):(zF sz rows).norm=zF sz (C.normRows rows):=by
  unfold zF;simp only[C.norm];cases rows<;>simp[C.normRows]
@[simp] theorem tG (sz:Nat) (nl:Option Bool) (rows:List (List C)):(C.list sz nl rows).norm=zF sz (C.normRows rows):=by
  unfold zF;simp only[C.norm];cases rows<;>simp[C.normRows]
section
variable {P : Program} {f : FuncId} {vs : List V} {K : KK} {d : Nat} {ts : TS} {os : OS}
theorem zD {args:List V} {r:V} {X:Prop} (hs:Spec P f args (fun r'=>r'=r)) (hk:K (insT d r ts) os)
  (hp:vs.all (fun v=>(zC os v).isPure)=true:=by simp[zC,uQ,lookO,V.isPure])
  (ha:vs.map (fun v=>(zC os v).norm)=args:=by simp[zC,uQ,lookO,V.norm,iF,rL,qE,qD,qS,tG,lst]) (hr:r.scalar=true:=by rfl):oE P f vs [] K (some d) ts os\/X:=by
 refine .inl ⟨hp,r,.inl ?_,?_⟩
 ·simpa [ha] using hs
 ·rw[if_pos hr];exact hk
theorem rM {cs:List C} {args:List V} {r:V} {X:Prop} (hs:Spec P f args (fun r'=>r'=r)) (hk:K (insT d r ts) os)
  (hp:vs.all (fun v=>(zC os v).isPure)=true:=by simp[zC,uQ,lookO,V.isPure])
  (ha:(vs.map (fun v=>(zC os v).norm)++cs.map fun c=> .k (.c c.norm))=args:=by simp[zC,uQ,lookO,V.norm,iF,rL,qE,qD,qS,tG,lst]) (hr:r.scalar=true:=by rfl):oE P f vs cs K (some d) ts os\/X:=by
 refine .inl ⟨hp,r,.inl (by rw[ha];exact hs),?_⟩;rw[if_pos hr];exact hk
theorem yP {args:List V} {r:V} {X:Prop} (hs:Spec P f args (fun r'=>r'=r)) (hk:retK r K ts os (some d))
  (hp:vs.all (fun v=>(zC os v).isPure)=true:=by simp[zC,uQ,lookO,V.isPure])
  (ha:vs.map (fun v=>(zC os v).norm)=args:=by simp[zC,uQ,lookO,V.norm,iF,rL,qE,qD,qS,tG,lst])
  (ht:vs.all (fun v=>v.toks.isEmpty)=true:=by simp[V.toks,K.toks]) (hr:r.scalar=false:=by rfl):oE P f vs [] K (some d) ts os\/X:=by
 refine .inl ⟨hp,r,.inl (by simpa [ha] using hs),?_⟩;rw[if_neg (by simp[hr])];exact⟨ht,hk⟩
theorem xI {args:List V} {r:V} (hs:Spec P f args (fun r'=>r'=r)) (hk:K (insT d r.fz ts) os)
  (hp:vs.all (fun v=>(zC os v).isPure)=true:=by simp[zC,uQ,lookO,V.isPure])
  (ha:vs.map (fun v=>(zC os v).norm)=args:=by simp[zC,uQ,lookO,V.norm,iF,rL,qE,qD,qS,tG,lst]) (hr:r.scalar=true:=by rfl):jN P f vs [] K d ts os:=
 ⟨hp,r,by simpa [ha] using hs,.inl hr,hk⟩
theorem yT {args:List V} {r:V} (hs:Spec P f args (fun r'=>r'=r)) (hk:K (insT d r.fz ts) os)
  (hp:vs.all (fun v=>(zC os v).isPure)=true:=by simp[zC,uQ,lookO,V.isPure])
  (ha:vs.map (fun v=>(zC os v).norm)=args:=by simp[zC,uQ,lookO,V.norm,iF,rL,qE,qD,qS,tG,lst]) (hr:vs.all (fun v=>v.toks.isEmpty)=true:=by simp[V.toks,K.toks]):jN P f vs [] K d ts os:=
 ⟨hp,r,by simpa [ha] using hs,.inr hr,hk⟩
end
end Go.Abs
namespace Go.Abs
def QsU:=PLift.up (ξ (ξ (ξ (ξ (ξ (ξ (ξ (ξ @insT.eq_1 @zdL)<|ξ @look.eq_1<|ξ @wpLs.eq_2 @wpL.eq_1)<|ξ (ξ @true_and @wpLs.eq_1)<|ξ @exL.eq_1<|ξ @zdM @AE.thenL.eq_1)<|ξ (ξ (ξ @awl.eq_2 @putK.eq_1)<|ξ @awl.eq_5<|ξ @look.eq_2 @vBin.eq_1)<|ξ (ξ @resV.eq_1 @exL.eq_11)<|ξ @awl.eq_6<|ξ @condK.eq_1 @learn.eq_1)<|ξ (ξ (ξ (ξ @binV.eq_1 @binInt.eq_3)<|ξ @and_self<|ξ @Nat.zero_add @zhZ)<|ξ (ξ @lookO.eq_1 @zh0)<|ξ @mapT.eq_1<|ξ @mapT.eq_2 @mapO.eq_1)<|ξ (ξ (ξ @condB.eq_1 @condB.eq_2)<|ξ @zie<|ξ @awl.eq_10 @cutInt.eq_8)<|ξ (ξ @awl.eq_1 @endK.eq_2)<|ξ @endL.eq_1<|ξ @endV.eq_1 @resL.eq_1)<|ξ (ξ (ξ (ξ (ξ @resL.eq_2 @V.nrm.eq_1)<|ξ @K.nrm.eq_1<|ξ @resX.eq_1 @V.owns.eq_1)<|ξ (ξ @V.toNew.eq_1 @C.norm.eq_5)<|ξ @zid<|ξ @C.norm.eq_4 @K.owns.eq_2)<|ξ (ξ (ξ @K.toNew.eq_1 @Bool.false_eq_true)<|ξ @zh4<|ξ @zh2 @zil)<|ξ (ξ @zh1 @pureRow.eq_1)<|ξ @pureRow.eq_2<|ξ @Nat.le_refl @awl.eq_7)<|ξ (ξ (ξ (ξ @exL.eq_8 @one.eq_1)<|ξ @vLoad.eq_4<|ξ @vFaddr.eq_4 @exL.eq_3)<|ξ (ξ @exL.eq_28 @decide_true)<|ξ @ofRow.eq_1<|ξ @zI @exL.eq_30)<|ξ (ξ (ξ @ziU @zh3)<|ξ @zim<|ξ @AOp.dst.eq_1 @AOp.dst.eq_10)<|ξ (ξ @C.norm.eq_6 @vPick.eq_1)<|ξ @Int.toNat_natCast<|ξ @insO.eq_1 @Int.natCast_nonneg)<|ξ (ξ (ξ (ξ (ξ (ξ @decide_false @zdN)<|ξ @zin<|ξ @exL.eq_21 @not_false_eq_true)<|ξ (ξ @Bool.and_true @exK.eq_1)<|ξ @AE.thenL.eq_3<|ξ @freeB.eq_1 @freeT.eq_1)<|ξ (ξ (ξ @freeT.eq_2 @freeO.eq_1)<|ξ @Bool.or_true<|ξ @Nat.add_zero @initT.eq_1)<|ξ (ξ @initT.eq_2 @vLoad.eq_2)<|ξ @C.normRow.eq_1<|ξ @guardP.eq_2 @AE.inBlockL.eq_1)<|ξ (ξ (ξ (ξ @ziV @C.normRow.eq_2)<|ξ @cutInt.eq_1<|ξ @guardP.eq_1 @putDL.eq_1)<|ξ (ξ @C.norm.eq_2 @V.noRef.eq_1)<|ξ @K.noRef.eq_1<|ξ @delO.eq_1 @delO.eq_2)<|ξ (ξ (ξ @wpLQ.eq_1 @wpLQs.eq_2)<|ξ @AOp.dst.eq_8<|ξ @V.noRef.eq_2 @partV.eq_2)<|ξ (ξ @zih @awl.eq_9)<|ξ @AE.thenL.eq_2<|ξ @AE.inBlockL.eq_2 @AOp.dst.eq_20)<|ξ (ξ (ξ (ξ (ξ @mapO.eq_2 @exL.eq_23)<|ξ @V.nrm.eq_2<|ξ @zix @ziF)<|ξ (ξ @ziG @freeO.eq_2)<|ξ @ziy<|ξ @ziA @V.nrm.eq_5)<|ξ (ξ (ξ @vUn.eq_1 @unV.eq_2)<|ξ @mapC.eq_1<|ξ @AE.inBlockL.eq_3 @ziw)<|ξ (ξ @ziD @awl.eq_14)<|ξ @cutInt.eq_6<|ξ @Bool.false_or @false_implies)<|ξ (ξ (ξ (ξ @vPick.eq_3 @binV.eq_2)<|ξ @exL.eq_15<|ξ @exLQ.eq_1 @cutInt.eq_7)<|ξ (ξ @K.noRef.eq_2 @O.noRef.eq_2)<|ξ @exLQ.eq_9<|ξ @wpLQs.eq_1 @exLQ.eq_29)<|ξ (ξ (ξ @cutInt.eq_10 @AOp.dst.eq_32)<|ξ @vExtr.eq_1<|ξ @zif @zig)<|ξ (ξ @zd3<|ξ @partV.eq_1 @vPick.eq_2)<|ξ @zh5<|ξ @exL.eq_27 @Bool.true_and)<|ξ (ξ (ξ (ξ (ξ (ξ (ξ @exL.eq_5 @exLQ.eq_24)<|ξ @one.eq_2<|ξ @V.owns.eq_3 @V.ownsL.eq_1)<|ξ (ξ @V.ownsL.eq_2 @V.toNew.eq_4)<|ξ @V.toNewL.eq_1<|ξ @V.toNewL.eq_2 @K.nrm.eq_2)<|ξ (ξ (ξ @boxK.eq_1 @vFaddr.eq_3)<|ξ @exLQ.eq_22<|ξ @zgi @zdO)<|ξ (ξ @awl.eq_3 @AOp.dst.eq_14)<|ξ @K.nrm.eq_3<|ξ @exLQ.eq_12 @AOp.dst.eq_3)<|ξ (ξ (ξ (ξ @ofRow.eq_2 @zh8)<|ξ @vLits.eq_1<|ξ @zia @yF)<|ξ (ξ @cutInt.eq_11 @exL.eq_2)<|ξ @and_true<|ξ @O.nrm.eq_2 @binStr.eq_2)<|ξ (ξ (ξ @wD @V.fz.eq_1)<|ξ @K.fz.eq_2<|ξ @zh7 @or_false)<|ξ (ξ @zh6 @K.noRef.eq_5)<|ξ @vLits.eq_2<|ξ @zh9 @zib)<|ξ (ξ (ξ (ξ (ξ @V.reg.eq_4 @freesL.eq_1)<|ξ @addsL.eq_1<|ξ @regK.eq_1 @retK.eq_2)<|ξ (ξ @Nat.succ_ne_self @isArrO.eq_1)<|ξ @K.owns.eq_1<|ξ @K.toNew.eq_2 @exL.eq_7)<|ξ (ξ (ξ @bsK.eq_1 @not_true_eq_false)<|ξ @exL.eq_31<|ξ @vLenS.eq_1 @stVarK.eq_1)<|ξ (ξ @storeK.eq_1 @AOp.dst.eq_22)<|ξ @exKQ.eq_1<|ξ @exL.eq_4 @exL.eq_9)<|ξ (ξ (ξ (ξ @V.cells.eq_2 @exLQ.eq_3)<|ξ @V.nrm.eq_4<|ξ @V.nrmL.eq_1 @awl.eq_11)<|ξ (ξ @keepT.eq_1 @keepT.eq_2)<|ξ @keepO.eq_1<|ξ @keepO.eq_2 @addO.eq_2)<|ξ (ξ (ξ @V.nrmL.eq_2 @V.scrub.eq_1)<|ξ @K.scrub.eq_1<|ξ @K.scrub.eq_5 @appK.eq_1)<|ξ (ξ @appendK.eq_1<|ξ @V.fz.eq_2 @guardP.eq_3)<|ξ @ziE<|ξ @zii @AOp.dst.eq_28)<|ξ (ξ (ξ (ξ (ξ (ξ @nlApp.eq_2 @zd4)<|ξ @V.cells.eq_1<|ξ @cutInt.eq_9 @C.normRows.eq_1)<|ξ (ξ @exL.eq_33 @O.scrub.eq_2)<|ξ @vBuild.eq_1<|ξ @vBuild.eq_2 @rowV.eq_1)<|ξ (ξ (ξ @zd2 @AOp.dst.eq_24)<|ξ @ziC<|ξ @binStr.eq_3 @Bool.and_eq_true)<|ξ (ξ @regN.eq_2 @V.reg.eq_3)<|ξ @V.regL.eq_1<|ξ @V.regL.eq_2 @vRow.eq_2)<|ξ (ξ (ξ (ξ @exL.eq_25 @vSidx.eq_1)<|ξ @ziB<|ξ @K.noRef.eq_3 @O.noRef.eq_1)<|ξ (ξ @zij @zik)<|ξ @V.noRef.eq_4<|ξ @V.noRefL.eq_1 @V.noRefL.eq_2)<|ξ (ξ (ξ @srcO.eq_1 @srcV.eq_2)<|ξ @V.scrub.eq_3<|ξ @C.norm.eq_3 @vRow.eq_1)<|ξ (ξ @exL.eq_6 @AOp.dst.eq_27)<|ξ @zd5<|ξ @regN.eq_1 @cutInt.eq_12)<|ξ (ξ (ξ (ξ (ξ @Int.toNat_zero @binStr.eq_1)<|ξ @addO.eq_1<|ξ @zic @C.norm.eq_1)<|ξ (ξ @Int.cast_ofNat_Int @cutInt.eq_3)<|ξ @binInt.eq_2<|ξ @exLQ.eq_8 @bsQ.eq_1)<|ξ (ξ (ξ @Bool.true_or @V.noRef.eq_5)<|ξ @resX.eq_2<|ξ @resCell.eq_1 @O.nrm.eq_1)<|ξ (ξ @V.owns.eq_4 @V.toNew.eq_2)<|ξ @srcV.eq_1<|ξ @if_true.{1} @if_false.{1})<|ξ (ξ (ξ (ξ @if_true.{0} @if_false.{0})<|ξ @List.nodup_nil.{0}<|ξ @φ.eq_1 @χ.eq_1)<|ξ (ξ @θ.eq_1 @ψ.eq_1)<|ξ @ω.eq_1<|ξ @Γ.eq_1 @Δ.eq_1)<|ξ (ξ (ξ @Θ.eq_1 @Ξ.eq_1)<|ξ @Φ.eq_1<|ξ @Ψ.eq_1 @Ω.eq_1)<|ξ (ξ @zAA.eq_1<|ξ @zAB.eq_1 @zAE.eq_1)<|ξ @zAF.eq_1<|ξ @η.eq_1 @ζ.eq_1)
theorem Qs:type_of% QsU.1:=QsU.1
end Go.Abs
namespace Go.Abs
section
variable {P : Program}
theorem eZ {n:Nat} {t:TypeId} {r:List C} {k:IntKind} (hu:P.underlying t=some (.int k)) (h:xE P n t r): ∃m:Int,r=[.int k m]/\(Lit.int k m).wf=true:=by
 cases n with
 |zero=>exact h.elim
 |succ n=>simp only[xE,hu] at h;exact h
theorem oP {n:Nat} {t:TypeId} {r:List C} (hu:P.underlying t=some .string) (h:xE P n t r): ∃s:List UInt8,r=[.str s]/\s.length<=9223372036854775807:=by
 cases n with
 |zero=>exact h.elim
 |succ n=>simp only[xE,hu] at h;exact h
theorem iG {n:Nat} {t e:TypeId} {r:List C} (hu:P.underlying t=some (.slice e)) (h:xE P n t r): ∃m rows,n=m+1/\r=[zF (P.cellsOf e) rows]/\rows.length<=9223372036854775807/\ ∀x∈rows,xE P m e x:=by
 cases n with
 |zero=>exact h.elim
 |succ n=>simp only[xE,hu] at h;obtain⟨rows,h1,h2,h3⟩:=h;exact⟨n,rows,rfl,h1,h2,h3⟩
theorem dA {n:Nat} {t:TypeId} {fs:Array Field} {r:List C} (hu:P.underlying t=some (.struct fs)) (h:xE P n t r): ∃m rs,n=m+1/\r=rs.flatten/\iC (xE P m) (fs.toList.map (·.type)) rs:=by
 cases n with
 |zero=>exact h.elim
 |succ n=>simp only[xE,hu] at h;obtain⟨rs,h1,h2⟩:=h;exact⟨n,rs,rfl,h1,h2⟩
theorem iH {α:Type} {S:List C->Prop} (enc:α->List C) (hS: ∀r,S r-> ∃a,r=enc a): ∀(rows:List (List C)),(∀r∈rows,S r)-> ∃l:List α,rows=l.map enc
 |[],_=>⟨[],rfl⟩
 |r::rows,h=>by
  obtain⟨a,ha⟩:=hS r (h r (by simp));obtain⟨l,hl⟩:=iH enc hS rows (fun x hx=>h x (by simp[hx]));exact⟨a::l,by rw[ha,hl];rfl⟩
variable {tI tB tS tT tLT tR tLR tC tLC tO : TypeId}
end
section
variable {P : Program}
end
end Go.Abs
namespace Go.Proofs
open Go.Shelf Go.RowKit
def Tryz.laysIdxF_ren:Go.Shelf.Ren:=
 {
  f:=fun x=>
   match x with
   |15=>97
   |20=>131
   |n=>n,
  t:=fun x=>
   match x with
   |9=>9
   |23=>147
   |3=>3
   |4=>4
   |0=>0
   |21=>21
   |n=>n,
  g:=fun n=>n}
theorem Tryz.laysIdxF:LaysGw.n15 Tryz.prog Tryz.laysIdxF_ren:=
 {mixed:=by kernel_rfl,f15:=Z1 Tryz.func97 (congrArg some (ZR (BodyGw.n15 Tryz.laysIdxF_ren))),
  f20:=Z1 Tryz.func131 (congrArg some (ZR (BodyGw.n20 Tryz.laysIdxF_ren))),t0:=Tryz.underlying0,
  a0:=Tryz.isAgg0,z0:=Tryz.sizeOf0,v0:=Tryz.zeroValue0,i0:=by kernel_rfl,
  t3:=Tryz.underlying3,a3:=Tryz.isAgg3,z3:=Tryz.sizeOf3,v3:=Tryz.zeroValue3,
  i3:=by kernel_rfl,t4:=Tryz.underlying4,a4:=Tryz.isAgg4,
  z4:=Tryz.sizeOf4,v4:=Tryz.zeroValue4,i4:=by kernel_rfl,
  t9:=Tryz.underlying9,a9:=Tryz.isAgg9,z9:=Tryz.sizeOf9,v9:=Tryz.zeroValue9,
  i9:=by kernel_rfl,t21:=Tryz.underlying21,a21:=Tryz.isAgg21,
  z21:=Tryz.sizeOf21,v21:=Tryz.zeroValue21,i21:=by kernel_rfl,
  t23:=Tryz.underlying147,a23:=Tryz.isAgg147,z23:=Tryz.sizeOf147,v23:=Tryz.zeroValue147,
  i23:=by kernel_rfl}
end Go.Proofs
namespace Go.Wire
open Go.Lib
abbrev Txt:=List UInt8
end Go.Wire
namespace Go.Wd
open Go.Lib Go.Wire
def joinB (c:UInt8):List Txt->Txt
 |[]=>[]
 |[w]=>w
 |w::v::r=>w++c::joinB c (v::r)
def cleanL (L:List (List Txt)):Prop:= ∀ws∈L,ws≠[]/\ ∀w∈ws,(32:UInt8) ∉ w/\(10:UInt8) ∉ w
def dec (n:Int):Txt:=decDigits n.toNat
structure Ten where
 k:Int
 n:Int
 u:Int
 deriving DecidableEq
structure Bil where
 dr:Int
 de:Int
 pa:Int
 su:Int
 cu:Int
 te:Ten
 da:Int
 ci:Int
 py:Int
 ne:Int
 ra:Int
 fl:Int
 pt:Int
 deriving DecidableEq
structure Nms where
 cu:List Txt
 ci:List Txt
 fi:List Txt
def nm (l:List Txt) (i:Int):Txt:=l.getD i.toNat []
def bit (k fl:Int):Bool:=decide (fl/k % 2=1)
structure Cal where
 date:Int->Int×Int×Int
 day:Int->Int->Int->Int
def ziX (C:Cal) (d:Int):Txt:=joinB 45 [dec (C.date d).1,dec (C.date d).2.1,dec (C.date d).2.2]
def zoh (C:Cal) (t:Ten):List Txt:=
 if t.k=0 then[[112,97,121],[97,116],[115,105,103,104,116]]
 else if t.k=3 then[[112,97,121],[111,110],ziX C t.n]
 else if t.k=4 then[[112,97,121],[97,116],[117,115,97,110,99,101]]
 else[[112,97,121],dec t.n,if t.u=1 then[109,111,110,116,104,115] else[100,97,121,115],[97,102,116,101,114],if t.k=2 then[100,97,116,101] else[115,105,103,104,116]]
def zoi (pt part:Int):List Int:=((List.range pt.toNat).map Int.ofNat).filter fun i=>decide (i≠part)
def orW:List Txt->List Txt
 |[]=>[]
 |[w]=>[w]
 |w::v::r=>w::[111,114]::orW (v::r)
def zoj (pt part:Int):List Txt:=orW ((zoi pt part).map fun i=>dec (i+1))
def rows (C:Cal) (N:Nms) (b:Bil) (p:Int):List (List Txt):=
 [[if bit 1 b.fl=true then[98,105,108,108] else[112,97,112,101,114],dec (p+1),[111,102],dec b.pt],
  [[100,114,97,119,110],[105,110],nm N.ci b.ci,[111,110],ziX C b.da],
  zoh C b.te,
  if b.pa= -1 then[[116,111],[98,101,97,114,101,114]] else if bit 4 b.fl=true then[[116,111],nm N.fi b.pa,[110,111,116],[116,111],[111,114,100,101,114]] else[[116,111],nm N.fi b.pa,[111,114],[111,114,100,101,114]],
  if b.ra=0 then[dec b.su,nm N.cu b.cu] else[dec b.su,nm N.cu b.cu,[119,105,116,104],[105,110,116,101,114,101,115,116],[97,116],dec b.ra,[112,101,114],[109,105,108,108,101]],
  [[116,111],[98,101],[112,97,105,100],[98,121],nm N.fi b.de,[105,110],nm N.ci b.py]]
 ++((if b.pt>1 then[[117,110,108,101,115,115]::[112,97,114,116]::(zoj b.pt p++[[119,97,115],[112,97,105,100]])] else[])
 ++((if b.ne= -1 then[] else[[[105,110],[110,101,101,100],[97,115,107],nm N.fi b.ne]])
 ++((if bit 2 b.fl=true then[[[119,105,116,104,111,117,116],[112,114,111,116,101,115,116]]] else[])++[[[115,105,103,110,101,100],nm N.fi b.dr]])))
def wd (l:List Txt) (i:Nat):Txt:=l.getD i []
end Go.Wd
namespace Go.Ex
open Go.Lib Go.Wd Go.Wire
structure Fld where
 name:Txt
 words:List (List Txt)
structure Dcm where
 kind:Txt
 flds:List Fld
structure Pln where
 kind:Txt
 names:List Txt
 texts:List Txt
structure Dmd where
 op:Int
 doc:Txt
 fld:Txt
 oth:Txt
 sec:Txt
 txt:Txt
 lo:Int
 hi:Int
deriving DecidableEq
structure Plc where
 doc:Int
 fld:Int
deriving DecidableEq
structure Flw where
 dem:List Int
 pls:List Plc
 sure:Bool
theorem big {n:Nat} (h:n<=1000000):n<=9223372036854775807:=by omega
def letB (c:UInt8):Bool:=decide (97<=c.toNat/\c.toNat<=122)||decide (65<=c.toNat/\c.toNat<=90)
def digB (c:UInt8):Bool:=decide (48<=c.toNat/\c.toNat<=57)
def tW (c:UInt8):Bool:=letB c||(digB c||decide (c.toNat=95))
def uR (c:UInt8):Bool:=decide (32<=c.toNat/\c.toNat<=126)
def spanN (p:UInt8->Bool):Txt->Nat
 |[]=>0
 |c::t=>if p c=true then spanN p t+1 else 0
theorem zok {p:UInt8->Bool} {s:Txt} {i:Nat} (h:i<s.length):spanN p (s.drop i)=if p s[i]=true then spanN p (s.drop (i+1))+1 else 0:=by
 rw[Zx h,spanN]
theorem lX {p:UInt8->Bool}: ∀{s:Txt},spanN p s=s.length ↔ s.all p=true
 |[]=>by simp[spanN]
 |c::t=>by
  rw[spanN,Yz,Zp,<-lX (s:=t)];split
  ·rename_i h;simp[h]
  ·rename_i h;simp[h]
def nameP (s:Txt):Bool:=decide (s≠[])&&(letB (s.getD 0 0)&&(decide (s.length<=20)&&decide (spanN tW s=s.length)))
def uF (c:UInt8):Bool:=decide (33<=c.toNat/\c.toNat<=126)
def uG (s:Txt):Bool:=decide (s≠[])&&(decide (s.length<=20)&&s.all uF)
def qT (l:List Txt):Nat->Bool
 |0=>false
 |n+1=>qT l n||decide (l.getD n []∈l.take n)
def vD (l:List Txt):Int:=if l.length>4 then 6 else if l=[] then 4 else if l.all uG=true then(if qT l l.length=true then 5 else 0) else 2
def wE (f:Nat->Int):Nat->Nat->Int
 |0,_=>0
 |n+1,i=>if f i=0 then wE f n (i+1) else f i
def xF:Fld:=⟨[],[]⟩
def vH (l:List Fld) (i:Nat):Int:=
 let f:=l.getD i xF
 if nameP f.name=true then
  if (l.take i).any (fun g=>decide (g.name=f.name))=true then 5
  else if f.words.length>8 then 6
  else wE (fun k=>vD (f.words.getD k [])) f.words.length 0
 else 2
def xC (d:Dcm):Int:=if nameP d.kind=true then(if d.flds.length>12 then 6 else wE (vH d.flds) d.flds.length 0) else 2
def yL (f:Fld):Nat:=(f.words.map List.length).foldl (· * ·) 1
def wY:List Fld->Nat->Int×Int
 |[],n=>((n:Int),0)
 |f::l,n=>if n*yL f>4096 then(0,6) else wY l (n*yL f)
def cntD (d:Dcm):Int×Int:=if xC d=0 then wY d.flds 1 else(0,xC d)
end Go.Ex
namespace Go.Abs
open Go.Proofs Go.RowKit Go.Lib Go.Wd Go.Wire Go.Ex
def zK (l:List Txt):List (List C):=l.map fun s=>[.str s]
@[simp] theorem zQ (l:List Txt):(zK l).length=l.length:=by simp[zK]
theorem vU {l:List Txt} {i:Nat} (h:i<l.length):(zK l).getD i []=[.str l[i]]:=by simp[zK,h]
@[simp] theorem yM (l:List Txt):C.normRows (zK l)=zK l:=yK (fun _=>rfl) l
theorem u8r (c:UInt8):(0:Int)<=(c.toNat:Int)/\(c.toNat:Int)<=255:=by
 have:=c.toNat_lt;omega
theorem wQ {S:V->Prop} {x y:Bool} (h:S (.bool x)) (e:y=true ↔ x=true):S (.k (.c (.bool y))):=by
 rw[Ye.2 e];exact h
theorem ziY (c:UInt8):Spec Tryz.prog 125 [.int .u8 (c.toNat:Int)] (fun v=>v=.bool (letB c)):=by
 refine Spec.of_awlS hf125 okf125 (by simp) fun S hS=>?_
 unfold letB at hS;generalize c.toNat=a at hS;simp only[Qs,Za,Ψ125]
 repeat' (apply And.intro<;>intro _)
 all_goals (refine wQ hS ?_;simp only[Yi,decide_eq_true_eq,Ya,true_iff,false_iff];omega)
theorem ziZ (c:UInt8):Spec Tryz.prog 160 [.int .u8 (c.toNat:Int)] (fun v=>v=.bool (digB c)):=by
 refine Spec.of_awlS hf160 okf160 (by simp) fun S hS=>?_
 unfold digB at hS;generalize c.toNat=a at hS;simp only[Qs,Za,Ψ160]
 repeat' (apply And.intro<;>intro _)
 all_goals (refine wQ hS ?_;simp only[Yi,decide_eq_true_eq,Ya,true_iff,false_iff];omega)
theorem zol (c:UInt8):Spec Tryz.prog 127 [.int .u8 (c.toNat:Int)] (fun v=>v=.bool (tW c)):=by
 refine Spec.of_awlS hf127 okf127 (by simp) fun S hS=>?_
 have g1:=ziY c;have g2:=ziZ c;unfold tW at hS;have hb:((c.toNat:Int)==95)=decide (c.toNat=95):=by
  rw[Ye];simp only[beq_iff_eq,decide_eq_true_eq];omega
 generalize letB c=x at g1 hS;generalize digB c=y at g2 hS;cases x with
 |true=>
  simp only[Qs,Za,Ψ127];refine zD g1 ?_ (ha:=by rfl);simp only[Qs,Za];exact hS
 |false=>
  simp only[Qs,Za,Ψ127];refine zD g1 ?_ (ha:=by rfl);simp only[Qs,Za];refine zD g2 ?_ (ha:=by rfl);cases y with
  |true=>
   simp only[Qs,Za];exact hS
  |false=>
   simp only[hb,Qs,Za];exact hS
theorem zaU {g:Nat} {p:UInt8->Bool} (hg: ∀c:UInt8,Spec Tryz.prog g [.int .u8 (c.toNat:Int)] (fun v=>v=.bool (p c))) (s:Txt) (hl:s.length<=9223372036854775807):Spec Tryz.prog 126 [.str s,.k (.c (.fn g []))] (fun v=>v=.int .i64 (spanN p s:Nat)):=by
 refine Spec.of_awlS hf126 okf126 (by simp) fun S hS=>?_
 simp only[Qs,Zb,Ψ126];rw[uu f126l9.eq_1];refine zO (fun i:Nat=>[(0,.str s),(1,.k (.c (.fn g []))),(5,.int .i64 i)]) (fun _=>[]) (fun i=>i<=s.length/\spanN p s=i+spanN p (s.drop i)) (fun i=>s.length-i) 0 rfl rfl ⟨Zy _,by simp⟩ ?_;rintro i ⟨hi,hD⟩;by_cases hlt:i<s.length
 ·have c1:(i:Int)<s.length:=by omega
  have c4:IntKind.i64.wrap ((i:Int)+1)=(i:Int)+1:=wrap_in (by omega) (by omega);have hgt:s.getD i 0=s[i]:=by rw[Zm,Zk hlt];rfl
  have gi:=hg s[i];rw[zok hlt] at hD;simp only[c1,hgt,Qs,fZ,oI,Za,Ψ126];refine rM gi ?_ (ha:=by rfl);cases hp:p s[i] with
  |true=>
   rw[if_pos hp] at hD;simp only[c4,Qs,Za,Ψ126];exact Next.intro (i+1) rfl rfl ⟨by omega,by omega⟩ (by omega)
  |false=>
   rw[if_neg (by rw[hp];simp)] at hD;rw[hD] at hS;simp only[Qs,Za,Ψ126];exact hS
 ·have c1: ¬(i:Int)<s.length:=by omega
  rw[ZE (by omega)] at hD;rw[hD] at hS;simp only[c1,Qs,fZ,Za,Ψ126];exact hS
theorem c92 (s:Txt) (hl:s.length<=9223372036854775807):Spec Tryz.prog 92 [.str s] (fun v=>v=.bool (nameP s)):=by
 refine Spec.of_awlS hf92 okf92 (by simp) fun S hS=>?_
 have g2:=zaU zol s hl;unfold nameP at hS;by_cases h0:s=[]
 ·rw[decide_eq_false (fun q=>q h0)] at hS
  have e2:(s !=[])=false:=by simp[h0]
  simp only[e2,Qs,Za,Yy,Ψ92];exact⟨fun _=>hS,fun q=>absurd h0 q⟩
 ·have hlen:0<s.length:=Yl.2 h0
  have q0:(0:Int)<s.length:=by omega
  rw[decide_eq_true h0,ZC] at hS;generalize hc:s.getD 0 0=c at hS;have g1:=ziY c;generalize letB c=x at g1 hS;have h20:((s.length:Int)<=20)=(s.length<=20):=by rw[eq_iff_iff];omega
  have hq:(((spanN tW s:Nat):Int)=s.length)=(spanN tW s=s.length):=by rw[eq_iff_iff];omega
  simp only[q0,hc,Wb,Qs,Za,Yy,Ψ92];refine⟨fun q=>absurd q h0,fun _=>?_⟩;refine zD g1 ?_ (ha:=by rfl);cases x with
  |false=>
   simp only[Qs,Za];exact hS
  |true=>
   rw[ZC] at hS;simp only[Qs,Za];refine⟨fun q=>?_,fun q=>?_⟩
   ·refine zD g2 ?_ (ha:=by rfl)
    rw[decide_eq_true (h20▸q),ZC] at hS;simp only[Qs,Za];refine wQ hS ?_;rw[beq_iff_eq,decide_eq_true_eq,hq]
   ·rw[decide_eq_false (fun z=>q (h20▸z))] at hS
    exact hS
end Go.Abs
namespace Go.Abs
open Go.Proofs Go.RowKit
theorem Spec.of_awlP {P:Program} {f:FuncId} {n:Nat} {c:AQ} {rs:List RX} {args:List V} {X:V} (hc:zH P f=some ⟨n,c.erase,rs⟩) (hok:c.ok=true) (hlen:args.length<=n)
  (h: ∀S:V->Prop,(∀r,r.fz.nrm=X->S r)->awl P c (endK rs S) (initT 0 args) []):Spec P f args (fun r=>r=X):=
 (Spec.of_awl hc hok hlen (h (fun r=>r.fz.nrm=X) fun _ h=>h)).plain.mono (by rintro r' ⟨r,h,rfl⟩;exact h)
theorem rN {P:Program} {f:FuncId} (h:(match P.funcs[f]? with|some fn=>fn.body.isSome&& !(fn.name== "runtime.NumGoroutine")|none=>false)=true):rA P f:=by
 unfold rA;cases hf:P.funcs[f]? with
 |none=>rw[hf] at h;simp at h
 |some fn=>rw[hf] at h;simp only[Zp,YL] at h;exact⟨fn,rfl,h.1,h.2⟩
theorem wB {w w':World} (h:Below w.heap.size w w'):xV w w':=⟨h.os,h.tape,h.output,h.size,h.block⟩
theorem dB {w w':World} (h:xV w w'):Below w.heap.size w w':=⟨h.os,h.tape,h.output,h.size,h.block⟩
def C.sc:C->Bool
 | .int _ _=>true
 | .bool _=>true
 | .str _=>true
 |_=>false
def wR:C->Value
 | .int k n=> .int k n
 | .bool b=> .bool b
 | .str s=> .string ⟨s.toArray⟩
 |_=> .bool false
theorem zaV {w:World} {Z:Bk->Prop} {c:C} {v:Value} (hc:c.sc=true) (h:PRep w Z c v):v=wR c:=by
 cases h<;>first|rfl|cases hc
theorem zi0 {w:World} {Z:Bk->Prop} {c:C} (hc:c.sc=true):PRep w Z c (wR c):=by
 cases c<;>first|exact .int _ _|exact .bool _|exact .str _|cases hc
theorem zom {c:C} (hc:c.sc=true):(wR c).oneCell'=true:=(zi0 (w:=default) (Z:=fun _=>False) hc).oneCell
theorem zi1 {α:Type} {sz:Nat} (h0:0<sz): ∀(rows:List (List α)) (k:Nat) (c:α),(∀r,r∈rows->r.length=sz)->rows.flatten[k]?=some c-> ∃i j r,rows[i]?=some r/\r[j]?=some c/\k=i*sz+j
 |[],k,c,_,h=>by simp at h
 |r::rows,k,c,hl,h=>by
  have hr:=hl r Yv;rw[YR] at h;by_cases hk:k<sz
  ·rw[ZG (by omega)] at h
   exact⟨0,k,r,rfl,h,by omega⟩
  ·rw[ZI (by omega)] at h
   obtain⟨i,j,r',h1,h2,h3⟩:=zi1 h0 rows (k-r.length) c (fun r' hr'=>hl r' (ZH _ hr')) h;exact⟨i+1,j,r',h1,h2,by rw[YB];omega⟩
theorem zi2 {α:Type} {sz:Nat}: ∀(rows:List (List α)) (i j:Nat) (r:List α) (c:α),(∀r,r∈rows->r.length=sz)->rows[i]?=some r->r[j]?=some c->rows.flatten[i*sz+j]?=some c
 |[],i,j,r,c,_,h,_=>by simp at h
 |r0::rows,0,j,r,c,hl,h,hc=>by
  cases h;have hj:=(Zw.1 hc).1;rw[YR,Nat.zero_mul,Z4,ZG hj];exact hc
 |r0::rows,i+1,j,r,c,hl,h,hc=>by
  have hr:=hl r0 Yv;rw[YR,YB,ZI (by omega),show i*sz+1*sz+j-r0.length=i*sz+j by omega];exact zi2 rows i j r c (fun r' hr'=>hl r' (ZH _ hr')) h hc
theorem zi3 {α:Type} {sz:Nat}: ∀(rows:List (List α)),(∀r,r∈rows->r.length=sz)->rows.flatten.length=rows.length*sz
 |[],_=>by simp
 |r0::rows,hl=>by
  rw[YR,Zr,zi3 rows fun r' hr'=>hl r' (ZH _ hr'),hl r0 Yv,Zu,YB];omega
def qU (rows:List (List C)):List Value:=rows.flatten.map wR
structure Plain (sz:Nat) (rows:List (List C)):Prop where
 pos:0<sz
 len: ∀r,r∈rows->r.length=sz
 sc: ∀r,r∈rows-> ∀c,c∈r->c.sc=true
theorem Plain.one {sz:Nat} {rows:List (List C)} (h:Plain sz rows): ∀u∈qU rows,u.oneCell'=true:=by
 intro u hu;obtain⟨c,hc,rfl⟩:=ZL.1 hu;obtain⟨r,hr,hcr⟩:=XX.1 hc;exact zom (h.sc r hr c hcr)
theorem Plain.at {sz:Nat} {rows:List (List C)} (h:Plain sz rows) {i j:Nat} {r:List C} {c:C} (hr:rows[i]?=some r) (hc:r[j]?=some c):(qU rows)[i*sz+j]?=some (wR c)/\c.sc=true:=by
 refine⟨?_,h.sc r (ZM hr) c (ZM hc)⟩;rw[qU,ZD,zi2 rows i j r c h.len hr hc];rfl
theorem Plain.slice {sz:Nat} {rows:List (List C)} (h:Plain sz rows) {w:World} {Z:Bk->Prop} {v:Value} (hv:PRep w Z (zF sz rows) v):
  ∃p cap,v=.slice p rows.length cap/\(0<rows.length-> ∃b o,p=some ⟨b,o,none⟩/\ ∀j u,(qU rows)[j]?=some u->w.cell? ⟨b,o+j,none⟩=some u)/\(0<rows.length->rows.length<=cap):=by
 unfold zF at hv;by_cases h0:rows=[]
 ·subst h0
  have h':PRep w Z (.list 0 none []) v:=hv;generalize hc:C.list 0 none []=c at h';cases h' with
  |nil=>exact⟨none,0,rfl,fun hk=>absurd hk (by simp),fun hk=>absurd hk (by simp)⟩
  |emp _ _ a=>exact⟨some a,0,rfl,fun hk=>absurd hk (by simp),fun hk=>absurd hk (by simp)⟩
  |list b o cap sz nl rws val=>
   injection hc with _ _ hr
   subst hr;exact⟨some ⟨b,o,none⟩,cap,rfl,fun hk=>absurd hk (by simp),fun hk=>absurd hk (by simp)⟩
  |_=>cases hc
 ·have e:(if rows.isEmpty=true then 0 else sz)=sz:=by cases rows<;>simp_all
  rw[e] at hv;generalize hc:C.list sz none rows=c at hv;cases hv with
  |nil=>injection hc with _ _ hr;exact absurd hr h0
  |emp=>injection hc with _ _ hr;exact absurd hr h0
  |list b o cap sz nl rws val h1 h2 h3 h4 h5 h6 h7=>
   injection hc with hs _ hr
   subst hs hr;refine⟨some ⟨b,o,none⟩,cap,rfl,fun _=>⟨b,o,rfl,fun k u hu=>?_⟩,fun _=>h2⟩;rw[qU,ZD] at hu;obtain⟨c,hc,rfl⟩:=Zf.1 hu;obtain⟨i,j,r,g1,g2,rfl⟩:=zi1 h.pos rows k c h.len hc;rw[h6 i j r c g1 g2,zaV (h.sc r (ZM g1) c (ZM g2)) (h7 i j r c g1 g2)]
  |_=>cases hc
theorem zon (l:List Int):Plain 1 (zG l):=by
 refine⟨by decide,fun r hr=>?_,fun r hr c hc=>?_⟩<;>obtain⟨s,_,rfl⟩:=ZL.1 hr
 ·rfl
 ·simp at hc;subst hc;rfl
end Go.Abs
